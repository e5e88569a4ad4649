import PyProof.Rows.All
import Wide.All
import OpenK.AllK
import Wide.FinOn
import PySem.Challenge.RW_cutanywhere_k06_whole_codes_of_rings
import HandS.Base
import HandS.Call
import HandS.List
import HandS.TupAny
import HandS.TupMul
import HandS.Comp
import HandS.Ends
import HandS.Text
import HandS.Iter
import HandS.Exc
import HandS.Words
import HandS.WordsList
import KE.DataEq
import KE.DataCmp
import KE.DataMinMax
import KE.SortData
import HandS.IsInst
import PyProof.StrOps2
import HandS.CallSlots
import HandS.ExcOwn
import HandS.Walk
import HandS.WordsExc
import HandS.Conv
import HandS.Property
import KE.GoesMore
import KE.GoesEnum
import HandS.Strs
import HandS.Deep
import HandS.Style
import HandS.Small
set_option Elab.async false
set_option linter.all false
set_option maxRecDepth 100000
set_option maxHeartbeats 8000000
namespace Cut
open PySem PySem.Spec L2
open PyProof.Rows hiding St

/-! ### tuples, each known to have no dict -/
def TX (o : HO) (xs : List V) : Prop := ∃ ob : Obj, ob.dict = none ∧ ob.cls = .type "tuple" ∧ o = .frz ob (.tup xs)
abbrev tobj (its : List Value) : Obj := { cls := .type "tuple", data := .seq its.toArray }
theorem TX.sq {K : PySem.W.Frag} {H : Hp} {a : Addr} {o : HO} {xs : List V} (t : TX o xs) (h : H a = some o) : SqT K H a xs := by
  obtain ⟨ob, _, _, rfl⟩ := t
  exact .inl (.inr ⟨ob, h⟩)
theorem tx_ok {P : Program} {w : World} {H : Hp} {h : Heap} {xs : List V} {its : List Value} (hz : xs.length ≤ sizeLine) (r : Vals xs its) : ObjOk P w H (h.push (tobj its)) h.objs.size (.frz (tobj its) (.tup xs)) :=
  ⟨Heap.get?_push_size _ rfl, hz, its, r, IsTup.new _ _⟩
section
variable {X : Cx} {es : List Expr} {t : TA} {pos : Pos}
def tTupX (t : TA) : TE := fun σ H Q => t σ H fun xs H1 => xs.length ≤ sizeLine ∧ ∀ p o, H1 p = none → TX o xs → Q (.ref p) (upd H1 p o)
theorem pe_tupX {x1} (h : PA X es t) : PE X (.Tuple es x1 pos) (tTupX t) := by
  refine ⟨fun pins s σ H Q I hq => ?_⟩
  refine wpAny_Tuple_spliced (thn (h.run pos pins s σ H _ I hq) fun us s1 ⟨xs, H1, I1, r, z, q⟩ => ⟨by rw [← r.length]; exact z, ?_⟩)
  have hf : H1 s1.heap.objs.size = none := I1.hok.fresh (Nat.le_refl _)
  exact ⟨.ref s1.heap.objs.size, upd H1 s1.heap.objs.size (.frz (tobj us) (.tup xs)), I1.laid (t' := s1.toks) (fun b u e => Heap.get?_push_of_some _ e) (Nat.le_refl _) (tx_ok z r), rfl, q _ _ hf ⟨_, rfl, rfl, rfl⟩⟩
theorem call_tupleX : CallR X (.type "tuple") (fun xs H Q => ∃ p ys, xs = [.ref p] ∧ ((SqL X.K H p ys ∧ ∀ l o, H l = none → TX o ys → Q (.ref l) (upd H l o)) ∨ (SqT X.K H p ys ∧ Q (.ref p) H))) := by
  intro pins s σ H xs us Q I r h
  obtain ⟨p, ys, rfl, h⟩ := h
  obtain ⟨u, rfl, rx⟩ := vals1 r
  cases rx
  rcases h with ⟨hq, q⟩ | ⟨hq, q⟩
  · obtain ⟨its, r', pl, hz⟩ := I.list hq
    have hlen := r'.length
    refine call_tuple_list pl.isList (fun h' kp => ?_) (by simp only [List.size_toArray] <;> omega)
    have I1 : Inv X pins σ H { s with heap := h' } := I.kept (t' := s.toks) kp
    have I2 : Inv X pins σ (upd H h'.objs.size (.frz (tobj its) (.tup ys))) { s with heap := h'.push (tobj its) } :=
      I1.laid (t' := s.toks) (fun b o e => Heap.get?_push_of_some _ e) (Nat.le_refl _) (tx_ok hz r')
    exact ⟨.ref h'.objs.size, _, I2, rfl, q _ _ (I1.hok.fresh (Nat.le_refl _)) ⟨_, rfl, rfl, rfl⟩⟩
  · obtain ⟨its, r', pl, hz⟩ := I.tuple hq
    exact call_tuple_same pl ⟨.ref p, H, I, rfl, q⟩
def rCatX (K : PySem.W.Frag) : R2 := fun x y H Q => ∃ a b xs ys, x = .ref a ∧ y = .ref b ∧ SqT K H a xs ∧ SqT K H b ys ∧ xs.length + ys.length ≤ sizeLine ∧
  (xs = [] → Q (.ref b) H) ∧ (xs ≠ [] → ys = [] → Q (.ref a) H) ∧ (xs ≠ [] → ys ≠ [] → ∀ p o, H p = none → TX o (xs ++ ys) → Q (.ref p) (upd H p o))
theorem op_catX : OpR X (binaryOp .Add) (rCatX X.K) := by
  intro pins s σ H x y v u Q I rx ry h
  obtain ⟨a, b, xs, ys, rfl, rfl, ha, hb, hz, q0, q1, q2⟩ := h
  cases rx
  cases ry
  obtain ⟨its, r1, p1, _⟩ := I.tuple ha
  obtain ⟨its2, r2, p2, _⟩ := I.tuple hb
  by_cases hx : xs = []
  · subst hx
    cases r1
    exact cat_tup0 p1 p2 ⟨.ref b, H, I, rfl, q0 rfl⟩
  · refine HT.cat_tup p1 p2 (fun z => hx (r1.nil_iff.mp z)) (fun z => ⟨.ref a, H, I, rfl, q1 hx (r2.nil_iff.mp z)⟩) (fun z => ?_) (by rw [← r1.length, ← r2.length]; exact hz)
    exact ⟨.ref s.heap.objs.size, _, I.laid (t' := s.toks) (o := .frz (tobj (its ++ its2)) (.tup (xs ++ ys))) (fun b ob q => Heap.get?_push_of_some _ q) (Nat.le_refl _) (tx_ok (by rw [List.length_append]; exact hz) (r1.append r2)), rfl, q2 hx (fun w => z (r2.nil_iff.mpr w)) _ _ (I.hok.fresh (Nat.le_refl _)) ⟨_, rfl, rfl, rfl⟩⟩
def rSlX (K : PySem.W.Frag) : V → Option Int → Option Int → Hp → VK → Prop := fun x lo hi H Q => ∃ a xs, x = .ref a ∧ SqT K H a xs ∧
  (HT.sIx xs.length 0 lo = 0 ∧ HT.sIx xs.length xs.length hi = xs.length → Q (.ref a) H) ∧ (¬ (HT.sIx xs.length 0 lo = 0 ∧ HT.sIx xs.length xs.length hi = xs.length) → ∀ p o, H p = none → TX o (cutV xs lo hi) → Q (.ref p) (upd H p o))
theorem sl_tupX : SlR X (rSlX X.K) := by
  intro pins s σ H x v vl vu lo hi sl Q I rx hs pl pu h
  obtain ⟨a, xs, rfl, hx, q1, q2⟩ := h
  cases rx
  obtain ⟨its, r, ht, hz⟩ := I.tuple hx
  have hlen : its.toArray.size = xs.length := by rw [List.size_toArray]; exact r.length.symm
  refine ⟨"tuple", _, PyProof.Rows.slot_tuple_getitem.lookup, ht.typeIs, ?_⟩
  by_cases hw : HT.sIx xs.length 0 lo = 0 ∧ HT.sIx xs.length xs.length hi = xs.length
  · exact getItem_tuple_whole ht hs pl pu (by rw [hlen]; exact hw) ⟨.ref a, H, I, rfl, q1 hw⟩
  · refine HT.getItem_tuple_cut ht hs pl pu (by rw [hlen]; exact hw) ?_ (by rw [hlen]; exact hz)
    rw [hlen]
    exact ⟨.ref s.heap.objs.size, _, I.laid (t' := s.toks) (o := .frz _ (.tup (cutV xs lo hi))) (fun b ob q => Heap.get?_push_of_some _ q) (Nat.le_refl _) (tx_ok (Nat.le_trans (cutV_length xs lo hi) hz) ((r.drop (HT.sIx xs.length 0 lo)).take (HT.sIx xs.length xs.length hi - HT.sIx xs.length 0 lo))), rfl, q2 hw _ _ (I.hok.fresh (Nat.le_refl _)) ⟨_, rfl, rfl, rfl⟩⟩
def rRepX (K : PySem.W.Frag) : R2 := fun x y H Q => ∃ l k xs, x = .ref l ∧ y = .int k ∧ SqT K H l xs ∧ xs ≠ [] ∧ 2 ≤ k ∧ k ≤ 1000 ∧ xs.length ≤ 1000 ∧ ∀ p o, H p = none → TX o (List.replicate k.toNat xs).flatten → Q (.ref p) (upd H p o)
theorem op_repX : OpR X (binaryOp .Mult) (rRepX X.K) := by
  intro pins s σ H x y v u Q I rx ry h
  obtain ⟨l, k, xs, rfl, rfl, hT, hne, h1, h2, hz, q⟩ := h
  cases rx
  obtain ⟨t, rfl⟩ := ry
  obtain ⟨its, r, ⟨⟨cls, dd, data, sl⟩, ho, hc, n, hd⟩, hs⟩ := I.tuple hT
  simp only at hc hd
  subst hc hd
  have hle : its.length = xs.length := r.length.symm
  have hn : its ≠ [] := fun e => hne (by
    rw [e] at hle
    exact List.eq_nil_of_length_eq_zero hle.symm)
  have hi : its.toArray.isEmpty = false := by
    cases its with
    | nil => exact absurd rfl hn
    | cons a b => rfl
  have hsz0 : its.toArray.size = xs.length := by rw [List.size_toArray, hle]
  have hm : ((its.toArray.size : Nat) : Int) * k ≤ 1000000 := by
    rw [hsz0]
    have a1 : ((xs.length : Nat) : Int) * k ≤ 1000 * k := Int.mul_le_mul_of_nonneg_right (by omega) (by omega)
    omega
  have flen : (List.replicate k.toNat its).flatten.length ≤ sizeLine := by
    rw [PyProof.Rows.lm_len_rep_flat, hle, sizeLine_eq]
    have a1 : k.toNat * xs.length ≤ 1000 * 1000 := Nat.mul_le_mul (by omega) hz
    omega
  have c0 : (decide (k < -(2 ^ 63)) || decide (k ≥ 2 ^ 63)) = false := by
    rw [decide_eq_false (by omega), decide_eq_false (by omega)] <;> rfl
  have c1 : (its.toArray.isEmpty || k == 1) = false := by
    rw [hi, Bool.false_or]
    exact beq_eq_false_iff_ne.mpr (by omega)
  have c2 : (decide (k ≤ 0) || its.toArray.isEmpty) = false := by
    rw [hi, Bool.or_false]
    exact decide_eq_false (by omega)
  have c4 : Builtin.Tuple.tupleTooMany (((its.toArray.size : Nat) : Int) * k) = false := by
    unfold Builtin.Tuple.tupleTooMany
    rw [sizeLine_eq]
    exact decide_eq_false (by omega)
  refine wpAny_binaryOp_repeat_ref (T := "tuple") (U := "int") (by decide) ⟨_, ho, rfl⟩ (fun s' => typeIs_int s' k t) noFill_tuple_mul F.fills_int_mul F.slot_int_rmul repeat_tuple F.slot_int_index.lookup
    (call_meets F.slot_int_rmul (typeIs_int s k t) F.entry_int_rmul (F.args_int_rmul_2 _ _) (int_rmul_tuple k t l its.toArray n dd sl)
      ⟨ho, rfl, ⟨_, ho, rfl⟩, call_meets F.slot_tuple_mul ⟨_, ho, rfl⟩ F.entry_tuple_mul (F.args_tuple_mul_2 _ _) (tuple_mulW l its.toArray n dd sl k t c0 c1 c2 (by omega) c4 (by rw [size_rep, List.size_toArray]; exact flen)) ⟨ho, ?_⟩⟩)
  rw [size_rep]
  exact ⟨.ref s.heap.objs.size, _, I.laid (t' := s.toks) (o := .frz (tobj (List.replicate k.toNat its).flatten) (.tup (List.replicate k.toNat xs).flatten)) (fun b ob q => Heap.get?_push_of_some _ q) (Nat.le_refl _) (tx_ok (by rw [PyProof.Rows.lm_len_rep_flat, sizeLine_eq]; have a1 : k.toNat * xs.length ≤ 1000 * 1000 := Nat.mul_le_mul (by omega) hz; omega) (r.rep k.toNat)), rfl, q _ _ (I.hok.fresh (Nat.le_refl _)) ⟨_, rfl, rfl, rfl⟩⟩
end
end Cut
namespace Cut
open PySem PySem.Spec L2
open PyProof.Rows hiding St

/-! ### words and data -/
abbrev Wd := List Nat
def S (w : Wd) : Str := ⟨w.toArray⟩
theorem S_inj {a b : Wd} (h : S a = S b) : a = b := by
  have := congrArg (fun z : Str => z.cps.toList) h
  simpa [S] using this
theorem S_of (x : Str) : x = S x.cps.toList := by cases x; simp [S]
theorem S_len (a : Wd) : (S a).length = a.length := by simp [S, Str.length]
theorem S_cps (a : Wd) : (S a).cps.toList = a := by simp [S]
theorem S_app (a b : Wd) : S a ++ S b = S (a ++ b) := by
  show (⟨(S a).cps ++ (S b).cps⟩ : Str) = _
  simp [S]

inductive D where
  | non | bl (b : Bool) | int (i : Int) | str (w : Wd)
  | lst (xs : List D) | tup (xs : List D) | dct (ks vs : List D) | cod (l n : Int) (ws : List Wd)

def keyD : D → Option Key
  | .int i => some (.inl i)
  | .str w => some (.inr (S w))
  | _ => none
def keysD : List D → Option (List Key)
  | [] => some []
  | d :: r => match keyD d, keysD r with
    | some k, some ks => some (k :: ks)
    | _, _ => none
def keyT : D → Option (List Key)
  | .tup xs => keysD xs
  | _ => none

/-- a dict's keys and values at an address -/
def DctO (o : HO) (ks : List D) (vs : List V) : Prop :=
  (∃ kvs, o = .dK kvs ∧ ks.map keyD = kvs.map (fun p => some p.1) ∧ vs = kvs.map (·.2)) ∨
  (∃ kvs, o = .dT kvs ∧ ks.map keyT = kvs.map (fun p => some p.1) ∧ vs = kvs.map (·.2))

structure CodAt (K : PySem.W.Frag) (cc : Addr) (F : Hp) (a : Addr) (l n : Int) (ws : List Wd) : Prop where
  ex : ∃ dx fs p, F a = some (.ins cc dx fs) ∧ fs.lookup ("many" : Str) = some (V.int l) ∧ fs.lookup ("size" : Str) = some (V.int n) ∧ fs.lookup ("rows" : Str) = some (V.ref p) ∧
    (∃ o, F p = some o ∧ TX o (ws.map fun w => V.str (S w))) ∧ (∀ x : Str, x ≠ "many" → x ≠ "size" → x ≠ "rows" → fs.lookup x = none)

mutual
/-- the value v stands for the datum d in the heap F -/
def Rep (K : PySem.W.Frag) (cc : Addr) (F : Hp) : D → V → Prop
  | .non, v => v = .non
  | .bl b, v => v = .bl b
  | .int i, v => v = .int i
  | .str w, v => v = .str (S w)
  | .lst ds, v => ∃ a vs, v = .ref a ∧ F a = some (.lst vs) ∧ Reps K cc F ds vs
  | .tup ds, v => ∃ a o vs, v = .ref a ∧ F a = some o ∧ TX o vs ∧ Reps K cc F ds vs
  | .dct ks ds, v => ∃ a o vs, v = .ref a ∧ F a = some o ∧ DctO o ks vs ∧ Reps K cc F ds vs
  | .cod l n ws, v => ∃ a, v = .ref a ∧ CodAt K cc F a l n ws
def Reps (K : PySem.W.Frag) (cc : Addr) (F : Hp) : List D → List V → Prop
  | [], vs => vs = []
  | d :: ds, vs => ∃ v r, vs = v :: r ∧ Rep K cc F d v ∧ Reps K cc F ds r
end

section
variable {K : PySem.W.Frag} {cc : Addr} {F F' : Hp}
theorem same_seqT {H H' : Hp} {a : Addr} {xs : List V} (e : Same H H') (h : SqT K H a xs) : SqT K H' a xs := by
  rcases h with (h | ⟨o, h⟩) | h
  · exact .inl (.inl (e _ _ h))
  · exact .inl (.inr ⟨o, e _ _ h⟩)
  · exact .inr h
theorem CodAt.mono {a : Addr} {l n : Int} {ws : List Wd} (e : Same F F') (h : CodAt K cc F a l n ws) : CodAt K cc F' a l n ws := by
  obtain ⟨dx, fs, p, h1, h2, h3, h4, ⟨o, h5, h7⟩, h6⟩ := h.ex
  exact ⟨dx, fs, p, e _ _ h1, h2, h3, h4, ⟨o, e _ _ h5, h7⟩, h6⟩
mutual
theorem Rep.mono (e : Same F F') : ∀ (d : D) (v : V), Rep K cc F d v → Rep K cc F' d v
  | .non, _, h => by unfold Rep at h ⊢; exact h
  | .bl _, _, h => by unfold Rep at h ⊢; exact h
  | .int _, _, h => by unfold Rep at h ⊢; exact h
  | .str _, _, h => by unfold Rep at h ⊢; exact h
  | .lst ds, _, h => by
    unfold Rep at h ⊢
    obtain ⟨a, vs, h1, h2, h3⟩ := h
    exact ⟨a, vs, h1, e _ _ h2, Reps.mono e ds vs h3⟩
  | .tup ds, _, h => by
    unfold Rep at h ⊢
    obtain ⟨a, o, vs, h1, h2, h4, h3⟩ := h
    exact ⟨a, o, vs, h1, e _ _ h2, h4, Reps.mono e ds vs h3⟩
  | .dct ks ds, _, h => by
    unfold Rep at h ⊢
    obtain ⟨a, o, vs, h1, h2, h3, h4⟩ := h
    exact ⟨a, o, vs, h1, e _ _ h2, h3, Reps.mono e ds vs h4⟩
  | .cod l n ws, _, h => by
    unfold Rep at h ⊢
    obtain ⟨a, h1, h2⟩ := h
    exact ⟨a, h1, h2.mono e⟩
theorem Reps.mono (e : Same F F') : ∀ (ds : List D) (vs : List V), Reps K cc F ds vs → Reps K cc F' ds vs
  | [], _, h => by unfold Reps at h ⊢; exact h
  | d :: ds, _, h => by
    unfold Reps at h ⊢
    obtain ⟨v, r, h1, h2, h3⟩ := h
    exact ⟨v, r, h1, Rep.mono e d v h2, Reps.mono e ds r h3⟩
end
theorem reps_nil {vs : List V} : Reps K cc F [] vs ↔ vs = [] := by unfold Reps; exact Iff.rfl
theorem reps_cons {d : D} {ds : List D} {vs : List V} : Reps K cc F (d :: ds) vs ↔ ∃ v r, vs = v :: r ∧ Rep K cc F d v ∧ Reps K cc F ds r := by
  constructor
  · intro h; unfold Reps at h; exact h
  · intro h; unfold Reps; exact h
theorem Reps.len : ∀ {ds : List D} {vs : List V}, Reps K cc F ds vs → vs.length = ds.length
  | [], _, h => by rw [reps_nil] at h; rw [h]; rfl
  | d :: ds, _, h => by
    obtain ⟨v, r, rfl, _, h3⟩ := reps_cons.mp h
    simp [Reps.len h3]
theorem Reps.app : ∀ {ds es : List D} {vs us : List V}, Reps K cc F ds vs → Reps K cc F es us → Reps K cc F (ds ++ es) (vs ++ us)
  | [], _, _, _, h, h' => by rw [reps_nil] at h; subst h; exact h'
  | d :: ds, _, _, _, h, h' => by
    obtain ⟨v, r, rfl, h2, h3⟩ := reps_cons.mp h
    exact reps_cons.mpr ⟨v, _, rfl, h2, Reps.app h3 h'⟩
theorem Reps.get : ∀ {ds : List D} {vs : List V} {i : Nat} {d : D}, Reps K cc F ds vs → ds[i]? = some d → ∃ v, vs[i]? = some v ∧ Rep K cc F d v
  | [], _, _, _, _, h' => by simp at h'
  | d :: ds, _, 0, _, h, h' => by
    obtain ⟨v, r, rfl, h2, h3⟩ := reps_cons.mp h
    simp at h'; subst h'
    exact ⟨v, rfl, h2⟩
  | d :: ds, _, i + 1, _, h, h' => by
    obtain ⟨v, r, rfl, h2, h3⟩ := reps_cons.mp h
    simp at h'
    obtain ⟨u, e, q⟩ := Reps.get h3 h'
    exact ⟨u, by simpa using e, q⟩
theorem Reps.getV : ∀ {ds : List D} {vs : List V} {i : Nat} {v : V}, Reps K cc F ds vs → vs[i]? = some v → ∃ d, ds[i]? = some d ∧ Rep K cc F d v
  | [], _, _, _, h, h' => by rw [reps_nil] at h; subst h; simp at h'
  | d :: ds, _, 0, _, h, h' => by
    obtain ⟨v, r, rfl, h2, h3⟩ := reps_cons.mp h
    simp at h'; subst h'
    exact ⟨d, rfl, h2⟩
  | d :: ds, _, i + 1, _, h, h' => by
    obtain ⟨v, r, rfl, h2, h3⟩ := reps_cons.mp h
    simp at h'
    obtain ⟨u, e, q⟩ := Reps.getV h3 h'
    exact ⟨u, by simpa using e, q⟩
theorem Reps.take : ∀ {ds : List D} {vs : List V} (n : Nat), Reps K cc F ds vs → Reps K cc F (ds.take n) (vs.take n)
  | [], _, n, h => by rw [reps_nil] at h; subst h; simp [reps_nil]
  | d :: ds, _, 0, h => by simp [reps_nil]
  | d :: ds, _, n + 1, h => by
    obtain ⟨v, r, rfl, h2, h3⟩ := reps_cons.mp h
    exact reps_cons.mpr ⟨v, _, rfl, h2, Reps.take n h3⟩
theorem Reps.drop : ∀ {ds : List D} {vs : List V} (n : Nat), Reps K cc F ds vs → Reps K cc F (ds.drop n) (vs.drop n)
  | [], _, n, h => by rw [reps_nil] at h; subst h; simp [reps_nil]
  | d :: ds, _, 0, h => by simpa using h
  | d :: ds, _, n + 1, h => by
    obtain ⟨v, r, rfl, h2, h3⟩ := reps_cons.mp h
    simpa using Reps.drop n h3
theorem Reps.set : ∀ {ds : List D} {vs : List V} (i : Nat) {d : D} {v : V}, Reps K cc F ds vs → Rep K cc F d v → Reps K cc F (ds.set i d) (vs.set i v)
  | [], _, n, _, _, h, _ => by rw [reps_nil] at h; subst h; simp [reps_nil]
  | d :: ds, _, 0, _, _, h, q => by
    obtain ⟨v, r, rfl, h2, h3⟩ := reps_cons.mp h
    exact reps_cons.mpr ⟨_, _, rfl, q, h3⟩
  | d :: ds, _, n + 1, _, _, h, q => by
    obtain ⟨v, r, rfl, h2, h3⟩ := reps_cons.mp h
    exact reps_cons.mpr ⟨_, _, rfl, h2, Reps.set n h3 q⟩
theorem reps_one {d : D} {v : V} (h : Rep K cc F d v) : Reps K cc F [d] [v] := reps_cons.mpr ⟨v, [], rfl, h, reps_nil.mpr rfl⟩
theorem reps_strs : ∀ {ws : List Wd}, Reps K cc F (ws.map .str) (ws.map fun w => V.str (S w))
  | [] => reps_nil.mpr rfl
  | w :: ws => reps_cons.mpr ⟨_, _, rfl, by unfold Rep; rfl, reps_strs⟩
end

/-! ### states -/
structure Src where
  st : Int
  cells : List Int
  k : Int
inductive DV where
  | im (d : D) | own (d : D) | src | me
structure DS where
  env : List (Option DV)
  src : Src
/-- an own exception: its class, its field -/
structure Xc where
  cls : Str
  fld : List (Str × D)

def SrcAt (H : Hp) (a b : Addr) (s : Src) : Prop := a ≠ b ∧ H a = some (.lst [.int s.st, .ref b, .int s.k]) ∧ H b = some (.lst (s.cells.map V.int))

/-- what a def's run is measured by: the frozen heap and the heap at the entry, the source of draws -/
structure Fx where
  cc : Addr
  F0 : Hp
  H0 : Hp
  hs : Bool
  sa : Addr
  sb : Addr
def Fx.not (Φ : Fx) (a : Addr) : Prop := Φ.hs = true → a ≠ Φ.sa ∧ a ≠ Φ.sb

def CellO (K : PySem.W.Frag) (cc : Addr) (F : Hp) (o : HO) : D → Prop
  | .lst ds => ∃ vs, o = .lst vs ∧ Reps K cc F ds vs
  | .dct ks ds => ∃ vs, DctO o ks vs ∧ Reps K cc F ds vs
  | _ => False
def VRel (K : PySem.W.Frag) (Φ : Fx) (F H : Hp) : DV → V → Prop
  | .im d, v => Rep K Φ.cc F d v
  | .own d, v => ∃ a o, v = .ref a ∧ Φ.H0 a = none ∧ F a = none ∧ H a = some o ∧ CellO K Φ.cc F o d
  | .src, v => Φ.hs = true ∧ v = .ref Φ.sa
  | .me, v => Φ.hs = false ∧ v = .ref Φ.sb
def OwnAt (σ : St) (s : DS) (a : Addr) : Prop := ∃ (i : Nat) (d : D), s.env[i]? = some (some (.own d)) ∧ σ[i]? = some (some (.ref a))

structure Rel (K : PySem.W.Frag) (Φ : Fx) (F : Hp) (σ : St) (H : Hp) (s : DS) : Prop where
  f0 : Same Φ.F0 F
  fh : Same F H
  new : ∀ a o, F a = some o → Φ.F0 a = some o ∨ Φ.H0 a = none
  keep : ∀ a o, Φ.not a → Φ.H0 a = some o → H a = some o
  srcH : Φ.hs = true → SrcAt H Φ.sa Φ.sb s.src
  srcN : Φ.hs = true → Φ.F0 Φ.sa = none ∧ Φ.F0 Φ.sb = none ∧ Φ.H0 Φ.sa ≠ none ∧ Φ.H0 Φ.sb ≠ none
  len : σ.length = s.env.length
  env : ∀ (i : Nat) dv, s.env[i]? = some (some dv) → ∃ v, σ[i]? = some (some v) ∧ VRel K Φ F H dv v
  apart : ∀ (i j : Nat) d d' a, i ≠ j → s.env[i]? = some (some (.own d)) → s.env[j]? = some (some (.own d')) → σ[i]? = some (some (.ref a)) → σ[j]? = some (some (.ref a)) → False

/-- a step of an expression: the frozen part grows, all that is not the source's stays; frozen anew: new ones and own ones -/
structure ESt (Φ : Fx) (σ : St) (s : DS) (F H : Hp) (s' : DS) (F' H' : Hp) : Prop where
  mono : Same F F'
  keep : ∀ a o, Φ.not a → H a = some o → H' a = some o
  born : ∀ a o, F' a = some o → F a = some o ∨ H a = none ∨ OwnAt σ s a
  own : ∀ a, OwnAt σ s' a → OwnAt σ s a
/-- a pure step: new objects alone -/
structure Gr (F H F' H' : Hp) : Prop where
  mono : Same F F'
  keep : Same H H'
  fh : Same F' H'
  born : ∀ a o, F' a = some o → F a = some o ∨ H a = none

theorem Gr.refl {F H : Hp} (h : Same F H) : Gr F H F H := ⟨Same.refl _, Same.refl _, h, fun _ _ q => .inl q⟩
theorem Gr.new {F H : Hp} {p : Addr} {o : HO} (h : Same F H) (np : H p = none) : Gr F H (upd F p o) (upd H p o) := by
  have nf : F p = none := h.free np
  refine ⟨fun b u e => ?_, fun b u e => ?_, fun b u e => ?_, fun b u e => ?_⟩
  · rw [upd_ne (ne_of_none e nf)]; exact e
  · rw [upd_ne (ne_of_none e np)]; exact e
  · by_cases hb : b = p
    · subst hb; rw [upd_same] at e ⊢; exact e
    · rw [upd_ne hb] at e ⊢; exact h _ _ e
  · by_cases hb : b = p
    · subst hb; exact .inr np
    · rw [upd_ne hb] at e; exact .inl e
theorem Gr.trans {F H F1 H1 F2 H2 : Hp} (a : Gr F H F1 H1) (b : Gr F1 H1 F2 H2) : Gr F H F2 H2 :=
  ⟨a.mono.trans b.mono, a.keep.trans b.keep, b.fh, fun c o e => by
    rcases b.born c o e with q | q
    · exact a.born c o q
    · exact .inr (a.keep.free q)⟩

section
variable {K : PySem.W.Frag} {Φ : Fx} {F F' H H' : Hp} {σ : St} {s s' : DS}
theorem ESt.refl : ESt Φ σ s F H s F H := ⟨Same.refl _, fun _ _ _ q => q, fun _ _ q => .inl q, fun _ q => q⟩
theorem Gr.est (g : Gr F H F' H') : ESt Φ σ s F H s F' H' := ⟨g.mono, fun a o _ q => g.keep a o q, fun a o q => (g.born a o q).elim .inl fun z => .inr (.inl z), fun _ q => q⟩

theorem Rel.ownH (R : Rel K Φ F σ H s) {a : Addr} (h : OwnAt σ s a) : F a = none ∧ Φ.H0 a = none ∧ ∃ o, H a = some o := by
  obtain ⟨i, d, e1, e2⟩ := h
  obtain ⟨v, e3, h3⟩ := R.env i _ e1
  rw [e2] at e3
  obtain ⟨b, o, q, h0, hf, hh, _⟩ := h3
  cases q
  cases e3
  exact ⟨hf, h0, o, hh⟩
theorem Rel.srcF (R : Rel K Φ F σ H s) (h : Φ.hs = true) : F Φ.sa = none ∧ F Φ.sb = none := by
  obtain ⟨h1, h2, h3, h4⟩ := R.srcN h
  constructor
  · cases q : F Φ.sa with
    | none => rfl
    | some o => rcases R.new _ _ q with z | z
                · rw [h1] at z; cases z
                · exact absurd z h3
  · cases q : F Φ.sb with
    | none => rfl
    | some o => rcases R.new _ _ q with z | z
                · rw [h2] at z; cases z
                · exact absurd z h4
/-- the entry's objects stand (the source's two too) -/
theorem Rel.h0 (R : Rel K Φ F σ H s) {a : Addr} (h : H a = none) : Φ.H0 a = none := by
  cases q : Φ.H0 a with
  | none => rfl
  | some o =>
    by_cases hn : Φ.not a
    · rw [R.keep a o hn q] at h; cases h
    · unfold Fx.not at hn
      have hs : Φ.hs = true := Classical.byContradiction fun z => hn fun y => absurd y z
      have sx := R.srcH hs
      by_cases ha : a = Φ.sa
      · subst ha; rw [sx.2.1] at h; cases h
      · by_cases hb : a = Φ.sb
        · subst hb; rw [sx.2.2] at h; cases h
        · exact absurd (fun _ => ⟨ha, hb⟩) hn
theorem Rel.notOwn (R : Rel K Φ F σ H s) {a : Addr} (h : OwnAt σ s a) : Φ.not a := fun hs => by
  obtain ⟨_, h0, _⟩ := R.ownH h
  obtain ⟨_, _, h3, h4⟩ := R.srcN hs
  exact ⟨fun z => h3 (z ▸ h0), fun z => h4 (z ▸ h0)⟩
theorem CellO.mono {cc : Addr} (e : Same F F') {o : HO} {d : D} (h : CellO K cc F o d) : CellO K cc F' o d := by
  cases d with
  | lst ds => obtain ⟨vs, h1, h2⟩ := h; exact ⟨vs, h1, h2.mono e⟩
  | dct ks ds => obtain ⟨vs, h1, h2⟩ := h; exact ⟨vs, h1, h2.mono e⟩
  | _ => exact h.elim
/-- a pure step keeps the relation -/
theorem Rel.gr (R : Rel K Φ F σ H s) (g : Gr F H F' H') : Rel K Φ F' σ H' s where
  f0 := R.f0.trans g.mono
  fh := g.fh
  new := fun a o e => by
    rcases g.born a o e with q | q
    · exact R.new a o q
    · exact .inr (R.h0 q)
  keep := fun a o hn e => g.keep _ _ (R.keep a o hn e)
  srcH := fun h => let ⟨h1, h2, h3⟩ := R.srcH h; ⟨h1, g.keep _ _ h2, g.keep _ _ h3⟩
  srcN := R.srcN
  len := R.len
  env := fun i dv e => by
    obtain ⟨v, e1, h1⟩ := R.env i dv e
    refine ⟨v, e1, ?_⟩
    cases dv with
    | im d => exact Rep.mono g.mono _ _ h1
    | own d =>
      obtain ⟨a, o, q, h0, hf, hh, hc⟩ := h1
      refine ⟨a, o, q, h0, ?_, g.keep _ _ hh, hc.mono g.mono⟩
      cases z : F' a with
      | none => rfl
      | some u => rcases g.born a u z with y | y
                  · rw [hf] at y; cases y
                  · rw [hh] at y; cases y
    | src => exact h1
    | me => exact h1
  apart := R.apart

theorem ESt.trans {F2 H2 : Hp} {s2 : DS} (R : Rel K Φ F' σ H' s') (a : ESt Φ σ s F H s' F' H') (b : ESt Φ σ s' F' H' s2 F2 H2) : ESt Φ σ s F H s2 F2 H2 where
  mono := a.mono.trans b.mono
  keep := fun c o n q => b.keep c o n (a.keep c o n q)
  born := fun c o q => by
    rcases b.born c o q with z | z | z
    · exact a.born c o z
    · refine .inr (.inl ?_)
      cases y : H c with
      | none => rfl
      | some u =>
        by_cases hn : Φ.not c
        · rw [a.keep c u hn y] at z; cases z
        · unfold Fx.not at hn
          have hs : Φ.hs = true := Classical.byContradiction fun z => hn fun y => absurd y z
          have sx := R.srcH hs
          by_cases ha : c = Φ.sa
          · subst ha; rw [sx.2.1] at z; cases z
          · by_cases hb : c = Φ.sb
            · subst hb; rw [sx.2.2] at z; cases z
            · exact absurd (fun _ => ⟨ha, hb⟩) hn
    · exact .inr (.inr (a.own c z))
  own := fun c q => a.own c (b.own c q)
end

/-! ### outcomes -/
inductive Rs (α : Type) where
  | ok (a : α) (s : DS) | exc (x : Xc) (s : DS) | bad
def Rs.bind {α β : Type} (r : Rs α) (g : α → DS → Rs β) : Rs β := match r with
  | .ok a s => g a s
  | .exc x s => .exc x s
  | .bad => .bad
def Rs.of {α : Type} (o : Option α) (s : DS) : Rs α := match o with
  | some a => .ok a s
  | none => .bad

def XRel (mg : Str → Option Value) (K : PySem.W.Frag) (cc : Addr) (F H : Hp) (x : Xc) (cls : Value) (od : Option Addr) : Prop :=
  ∃ C, mg x.cls = some (.ref C) ∧ cls = .ref C ∧
    ((x.fld = [] ∧ od = none) ∨ ∃ e fs, x.fld ≠ [] ∧ od = some e ∧ H e = some (.xd fs) ∧ x.fld.map (·.1) = fs.map (·.1) ∧ Reps K cc F (x.fld.map (·.2)) (fs.map (·.2)))

/-- what an outcome asks -/
def Hold (K : PySem.W.Frag) (mg : Str → Option Value) (Φ : Fx) (W : WX) {α : Type} (F : Hp) (σ : St) (H : Hp) (s : DS) (r : Rs α) (P : Hp → Hp → α → DS → Prop) : Prop := match r with
  | .ok a s' => ∀ F' H', Rel K Φ F' σ H' s' → ESt Φ σ s F H s' F' H' → P F' H' a s'
  | .exc x s' => ∀ F' H' cls od, Rel K Φ F' σ H' s' → Same F F' → XRel mg K Φ.cc F' H' x cls od → W cls od σ H'
  | .bad => False

/-- a value that is read: frozen, or an own object that stands -/
def RepB (K : PySem.W.Frag) (Φ : Fx) (F H : Hp) (d : D) (v : V) : Prop :=
  Rep K Φ.cc F d v ∨ ∃ a o, v = .ref a ∧ Φ.not a ∧ H a = some o ∧ CellO K Φ.cc F o d
def RepsB (K : PySem.W.Frag) (Φ : Fx) (F H : Hp) : List D → List V → Prop
  | [], vs => vs = []
  | d :: ds, vs => ∃ v r, vs = v :: r ∧ RepB K Φ F H d v ∧ RepsB K Φ F H ds r

section
variable {K : PySem.W.Frag} {mg : Str → Option Value} {Φ : Fx} {W : WX} {F F' H H' : Hp} {σ : St} {s s' : DS} {α β : Type}
theorem RepB.est (e : ESt Φ σ s F H s' F' H') {d : D} {v : V} (h : RepB K Φ F H d v) : RepB K Φ F' H' d v := by
  rcases h with h | ⟨a, o, h1, h2, h3, h4⟩
  · exact .inl (Rep.mono e.mono _ _ h)
  · exact .inr ⟨a, o, h1, h2, e.keep _ _ h2 h3, h4.mono e.mono⟩
theorem RepsB.est (e : ESt Φ σ s F H s' F' H') : ∀ {ds : List D} {vs : List V}, RepsB K Φ F H ds vs → RepsB K Φ F' H' ds vs
  | [], _, h => h
  | _ :: _, _, ⟨v, r, h1, h2, h3⟩ => ⟨v, r, h1, h2.est e, RepsB.est e h3⟩
theorem RepsB.of : ∀ {ds : List D} {vs : List V}, Reps K Φ.cc F ds vs → RepsB K Φ F H ds vs
  | [], _, h => reps_nil.mp h
  | _ :: _, _, h => let ⟨v, r, h1, h2, h3⟩ := reps_cons.mp h; ⟨v, r, h1, .inl h2, RepsB.of h3⟩
/-- from a later state back to an earlier one -/
theorem Hold.back {s1 : DS} {F1 H1 : Hp} {r : Rs α} {P : Hp → Hp → α → DS → Prop} (R : Rel K Φ F1 σ H1 s1) (e : ESt Φ σ s F H s1 F1 H1) (h : Hold K mg Φ W F σ H s r P) : Hold K mg Φ W F1 σ H1 s1 r P := by
  cases r with
  | ok a s' => exact fun F' H' R' e' => h F' H' R' (e.trans R e')
  | exc x s' => exact fun F' H' cls od R' sm x => h F' H' cls od R' (e.mono.trans sm) x
  | bad => exact h
theorem Hold.bind {r : Rs α} {g : α → DS → Rs β} {P : Hp → Hp → β → DS → Prop} (h : Hold K mg Φ W F σ H s (r.bind g) P) :
    Hold K mg Φ W F σ H s r (fun F1 H1 a s1 => Hold K mg Φ W F1 σ H1 s1 (g a s1) P) := by
  cases r with
  | ok a s' => exact fun F' H' R' e' => Hold.back R' e' h
  | exc x s' => exact h
  | bad => exact h
theorem Hold.imp {r : Rs α} {P P' : Hp → Hp → α → DS → Prop} (h : Hold K mg Φ W F σ H s r P) (q : ∀ F' H' a s', Rel K Φ F' σ H' s' → ESt Φ σ s F H s' F' H' → P F' H' a s' → P' F' H' a s') : Hold K mg Φ W F σ H s r P' := by
  cases r with
  | ok a s' => exact fun F' H' R' e' => q F' H' a s' R' e' (h F' H' R' e')
  | exc x s' => exact h
  | bad => exact h
end

/-! ### the judgements -/
section
variable (K : PySem.W.Frag) (mg : Str → Option Value) (Φ : Fx) (W : WX)
/-- a frozen value comes -/
def tD (f : DS → Rs D) : TE := fun σ H Q => ∃ F s, Rel K Φ F σ H s ∧ Hold K mg Φ W F σ H s (f s) fun F' H' d _ => ∀ v, Rep K Φ.cc F' d v → Q v H'
/-- a value comes that may be an own one, to be read at once -/
def tBw (f : DS → Rs D) : TE := fun σ H Q => ∃ F s, Rel K Φ F σ H s ∧ Hold K mg Φ W F σ H s (f s) fun F' H' d _ => ∀ v, RepB K Φ F' H' d v → Q v H'
/-- a new object comes that nobody holds -/
def tFr (f : DS → Rs D) : TE := fun σ H Q => ∃ F s, Rel K Φ F σ H s ∧ Hold K mg Φ W F σ H s (f s) fun F' H' d _ => ∀ p o, H' p = none → CellO K Φ.cc F' o d → Q (.ref p) (upd H' p o)
def tAr (f : DS → Rs (List D)) : TA := fun σ H Q => ∃ F s, Rel K Φ F σ H s ∧ Hold K mg Φ W F σ H s (f s) fun F' H' d _ => ∀ vs, Reps K Φ.cc F' d vs → Q vs H'
def tAb (f : DS → Rs (List D)) : TA := fun σ H Q => ∃ F s, Rel K Φ F σ H s ∧ Hold K mg Φ W F σ H s (f s) fun F' H' d _ => ∀ vs, RepsB K Φ F' H' d vs → Q vs H'
def tTs (f : DS → Rs Bool) : TT := fun σ H Q => ∃ F s, Rel K Φ F σ H s ∧ Hold K mg Φ W F σ H s (f s) fun _ H' b _ => Q b H'
end
abbrev DE (X : Cx) (Φ : Fx) (W : WX) (e : Expr) (f : DS → Rs D) : Prop := PE X e (tD X.K X.mg Φ W f)
abbrev DB (X : Cx) (Φ : Fx) (W : WX) (e : Expr) (f : DS → Rs D) : Prop := PE X e (tBw X.K X.mg Φ W f)
abbrev DF (X : Cx) (Φ : Fx) (W : WX) (e : Expr) (f : DS → Rs D) : Prop := PE X e (tFr X.K X.mg Φ W f)
abbrev DA (X : Cx) (Φ : Fx) (W : WX) (es : List Expr) (f : DS → Rs (List D)) : Prop := PA X es (tAr X.K X.mg Φ W f)
abbrev DAb (X : Cx) (Φ : Fx) (W : WX) (es : List Expr) (f : DS → Rs (List D)) : Prop := PA X es (tAb X.K X.mg Φ W f)
abbrev DT (X : Cx) (Φ : Fx) (W : WX) (e : Expr) (f : DS → Rs Bool) : Prop := PT X e (tTs X.K X.mg Φ W f)

theorem PE.imp {X : Cx} {e : Expr} {t t' : TE} (h : PE X e t) (q : ∀ σ H Q, t' σ H Q → t σ H Q) : PE X e t' := ⟨fun pins s σ H Q I w => h.run pins s σ H Q I (q σ H Q w)⟩
theorem PT.imp {X : Cx} {e : Expr} {t t' : TT} (h : PT X e t) (q : ∀ σ H Q, t' σ H Q → t σ H Q) : PT X e t' := ⟨fun pins s σ H Q I w => h.run pins s σ H Q I (q σ H Q w)⟩
theorem PA.imp {X : Cx} {es : List Expr} {t t' : TA} (h : PA X es t) (q : ∀ σ H Q, t' σ H Q → t σ H Q) : PA X es t' := ⟨fun pos pins s σ H Q I w => h.run pos pins s σ H Q I (q σ H Q w)⟩

section
variable {X : Cx} {Φ : Fx} {W : WX} {e a b : Expr} {es : List Expr} {f g : DS → Rs D} {pos : Pos}
theorem DE.toB (h : DE X Φ W e f) : DB X Φ W e f := PE.imp h fun σ H Q ⟨F, s, R, q⟩ => ⟨F, s, R, q.imp fun _ _ _ _ _ _ z v r => z v (.inl r)⟩

/-- a fresh object is frozen -/
theorem freeze {K : PySem.W.Frag} {F H : Hp} {p : Addr} {o : HO} {d : D} (hF : Same F H) (np : H p = none) (c : CellO K Φ.cc F o d) : Gr F H (upd F p o) (upd H p o) ∧ Rep K Φ.cc (upd F p o) d (.ref p) := by
  have g := Gr.new (o := o) hF np
  refine ⟨g, ?_⟩
  cases d with
  | lst ds =>
    obtain ⟨vs, rfl, h⟩ := c
    unfold Rep
    exact ⟨p, vs, rfl, upd_same, h.mono g.mono⟩
  | dct ks ds =>
    obtain ⟨vs, h1, h⟩ := c
    unfold Rep
    exact ⟨p, o, vs, rfl, upd_same, h1, h.mono g.mono⟩
  | _ => exact c.elim
theorem DF.toE (h : DF X Φ W e f) : DE X Φ W e f := PE.imp h fun σ H Q ⟨F, s, R, q⟩ => ⟨F, s, R, by
  cases z : f s with
  | ok d s' =>
    rw [z] at q
    intro F' H' R' e' p o np c
    obtain ⟨g, r⟩ := freeze R'.fh np c
    exact q _ _ (R'.gr g) (e'.trans R' g.est) _ r
  | exc x s' => rw [z] at q; exact q
  | bad => rw [z] at q; exact q.elim⟩
end
end Cut
namespace Cut
open PySem PySem.Spec L2
open PyProof.Rows hiding St

/-! ### reading values -/
section
variable {K : PySem.W.Frag} {Φ : Fx} {F H : Hp} {v : V}
theorem RepB.non (h : RepB K Φ F H .non v) : v = .non := by
  rcases h with h | ⟨_, _, _, _, _, h⟩
  · unfold Rep at h; exact h
  · exact h.elim
theorem RepB.bl {b : Bool} (h : RepB K Φ F H (.bl b) v) : v = .bl b := by
  rcases h with h | ⟨_, _, _, _, _, h⟩
  · unfold Rep at h; exact h
  · exact h.elim
theorem RepB.int {i : Int} (h : RepB K Φ F H (.int i) v) : v = .int i := by
  rcases h with h | ⟨_, _, _, _, _, h⟩
  · unfold Rep at h; exact h
  · exact h.elim
theorem RepB.str {w : Wd} (h : RepB K Φ F H (.str w) v) : v = .str (S w) := by
  rcases h with h | ⟨_, _, _, _, _, h⟩
  · unfold Rep at h; exact h
  · exact h.elim
theorem RepB.lst {ds : List D} (sm : Same F H) (h : RepB K Φ F H (.lst ds) v) : ∃ a vs, v = .ref a ∧ H a = some (.lst vs) ∧ Reps K Φ.cc F ds vs := by
  rcases h with h | ⟨a, o, rfl, _, e, vs, rfl, h⟩
  · unfold Rep at h
    obtain ⟨a, vs, h1, h2, h3⟩ := h
    exact ⟨a, vs, h1, sm _ _ h2, h3⟩
  · exact ⟨a, vs, rfl, e, h⟩
theorem RepB.tup {ds : List D} (sm : Same F H) (h : RepB K Φ F H (.tup ds) v) : ∃ a o vs, v = .ref a ∧ F a = some o ∧ H a = some o ∧ TX o vs ∧ Reps K Φ.cc F ds vs := by
  rcases h with h | ⟨a, o, rfl, _, e, h⟩
  · unfold Rep at h
    obtain ⟨a, o, vs, h1, h2, h4, h3⟩ := h
    exact ⟨a, o, vs, h1, h2, sm _ _ h2, h4, h3⟩
  · exact h.elim
theorem RepB.dct {ks ds : List D} (sm : Same F H) (h : RepB K Φ F H (.dct ks ds) v) : ∃ a o vs, v = .ref a ∧ H a = some o ∧ DctO o ks vs ∧ Reps K Φ.cc F ds vs := by
  rcases h with h | ⟨a, o, rfl, _, e, vs, h1, h⟩
  · unfold Rep at h
    obtain ⟨a, o, vs, h1, h2, h3, h4⟩ := h
    exact ⟨a, o, vs, h1, sm _ _ h2, h3, h4⟩
  · exact ⟨a, o, vs, rfl, e, h1, h⟩
theorem RepB.cod {l n : Int} {ws : List Wd} (h : RepB K Φ F H (.cod l n ws) v) : ∃ a, v = .ref a ∧ CodAt K Φ.cc F a l n ws := by
  rcases h with h | ⟨a, o, rfl, _, e, h⟩
  · unfold Rep at h; exact h
  · exact h.elim
theorem rep_int {cc : Addr} {i : Int} : Rep K cc F (.int i) (.int i) := by unfold Rep; rfl
theorem rep_str {cc : Addr} {w : Wd} : Rep K cc F (.str w) (.str (S w)) := by unfold Rep; rfl
theorem rep_bl {cc : Addr} {b : Bool} : Rep K cc F (.bl b) (.bl b) := by unfold Rep; rfl
theorem rep_non {cc : Addr} : Rep K cc F .non .non := by unfold Rep; rfl
end

/-! ### plain data: the library's own -/
mutual
def toPy : D → PyData
  | .non => .none
  | .bl b => .bool b
  | .int i => .int i
  | .str w => .str (S w)
  | .lst ds => .list (toPys ds)
  | .tup ds => .tuple (toPys ds)
  | .dct _ _ => .none
  | .cod _ _ _ => .none
def toPys : List D → List PyData
  | [] => []
  | d :: r => toPy d :: toPys r
end
mutual
/-- no dict, no code within, at most so deep -/
def pln : Nat → D → Bool
  | n, .non => true
  | n, .bl _ => true
  | n, .int _ => true
  | n, .str _ => true
  | n + 1, .lst ds => plns n ds
  | n + 1, .tup ds => plns n ds
  | _, _ => false
def plns : Nat → List D → Bool
  | _, [] => true
  | n, d :: r => pln n d && plns n r
end
mutual
/-- Python's == of plain data -/
def deq : D → D → Bool
  | .non, .non => true
  | .bl a, .bl b => a == b
  | .bl a, .int j => decide ((if a then 1 else 0) = j)
  | .int i, .bl b => decide (i = (if b then 1 else 0))
  | .int i, .int j => decide (i = j)
  | .str x, .str y => decide (x = y)
  | .lst xs, .lst ys => deqs xs ys
  | .tup xs, .tup ys => deqs xs ys
  | _, _ => false
def deqs : List D → List D → Bool
  | [], [] => true
  | x :: xs, y :: ys => deq x y && deqs xs ys
  | _, _ => false
end
theorem S_beq (x y : Wd) : (S x == S y) = decide (x = y) := by
  by_cases h : x = y
  · subst h; simp
  · have : S x ≠ S y := fun e => h (S_inj e)
    simp [h, this]
mutual
theorem pln_plain : ∀ (n : Nat) (d : D), pln n d = true → (toPy d).plain = true ∧ (toPy d).depth ≤ n
  | n, .non, _ => by simp [toPy, PyData.plain, PyData.depth]
  | n, .bl _, _ => by simp [toPy, PyData.plain, PyData.depth]
  | n, .int _, _ => by simp [toPy, PyData.plain, PyData.depth]
  | n, .str _, _ => by simp [toPy, PyData.plain, PyData.depth]
  | 0, .lst _, h => by simp [pln] at h
  | 0, .tup _, h => by simp [pln] at h
  | n + 1, .lst ds, h => by
    have h' := plns_plain n ds (by simpa [pln] using h)
    simp [toPy, PyData.plain, PyData.depth, h'.1, h'.2]
  | n + 1, .tup ds, h => by
    have h' := plns_plain n ds (by simpa [pln] using h)
    simp [toPy, PyData.plain, PyData.depth, h'.1, h'.2]
  | 0, .dct _ _, h => by simp [pln] at h
  | 0, .cod _ _ _, h => by simp [pln] at h
  | n + 1, .dct _ _, h => by simp [pln] at h
  | n + 1, .cod _ _ _, h => by simp [pln] at h
theorem plns_plain : ∀ (n : Nat) (ds : List D), plns n ds = true → PyData.plainAll (toPys ds) = true ∧ PyData.depthAll (toPys ds) ≤ n
  | n, [], _ => by simp [toPys, PyData.plainAll, PyData.depthAll]
  | n, d :: r, h => by
    have h : pln n d = true ∧ plns n r = true := by simpa [plns] using h
    have h1 := pln_plain n d h.1
    have h2 := plns_plain n r h.2
    simp [toPys, PyData.plainAll, PyData.depthAll, h1.1, h2.1]
    omega
end
mutual
theorem deq_eqv : ∀ (n m : Nat) (x y : D), pln n x = true → pln m y = true → PyData.eqv (toPy x) (toPy y) = deq x y
  | n, m, .lst xs, .lst ys, h, h' => by
    cases n with
    | zero => simp [pln] at h
    | succ n => cases m with
      | zero => simp [pln] at h'
      | succ m =>
        have := deqs_eqv n m xs ys (by simpa [pln] using h) (by simpa [pln] using h')
        simp [toPy, PyData.eqv, deq, this]
  | n, m, .tup xs, .tup ys, h, h' => by
    cases n with
    | zero => simp [pln] at h
    | succ n => cases m with
      | zero => simp [pln] at h'
      | succ m =>
        have := deqs_eqv n m xs ys (by simpa [pln] using h) (by simpa [pln] using h')
        simp [toPy, PyData.eqv, deq, this]
  | n, m, .str x, .str y, _, _ => by simp [toPy, PyData.eqv, deq, S_beq]
  | n, m, .int x, .int y, _, _ => by simp [toPy, PyData.eqv, deq, Bool.beq_eq_decide_eq]
  | n, m, .int x, .bl y, _, _ => by cases y <;> simp [toPy, PyData.eqv, deq, Bool.beq_eq_decide_eq]
  | n, m, .bl x, .int y, _, _ => by cases x <;> simp [toPy, PyData.eqv, deq, Bool.beq_eq_decide_eq]
  | n, m, .bl x, .bl y, _, _ => by simp [toPy, PyData.eqv, deq]
  | n, m, .non, y, _, h' => by cases y <;> first | (simp [toPy, PyData.eqv, deq]; done) | (cases m <;> simp [pln] at h')
  | n, m, .bl _, .non, _, h' => by simp [toPy, PyData.eqv, deq]
  | n, m, .bl _, .str _, _, h' => by simp [toPy, PyData.eqv, deq]
  | n, m, .bl _, .lst _, _, h' => by simp [toPy, PyData.eqv, deq]
  | n, m, .bl _, .tup _, _, h' => by simp [toPy, PyData.eqv, deq]
  | n, m, .int _, .non, _, h' => by simp [toPy, PyData.eqv, deq]
  | n, m, .int _, .str _, _, h' => by simp [toPy, PyData.eqv, deq]
  | n, m, .int _, .lst _, _, h' => by simp [toPy, PyData.eqv, deq]
  | n, m, .int _, .tup _, _, h' => by simp [toPy, PyData.eqv, deq]
  | n, m, .str _, .non, _, h' => by simp [toPy, PyData.eqv, deq]
  | n, m, .str _, .int _, _, h' => by simp [toPy, PyData.eqv, deq]
  | n, m, .str _, .bl _, _, h' => by simp [toPy, PyData.eqv, deq]
  | n, m, .str _, .lst _, _, h' => by simp [toPy, PyData.eqv, deq]
  | n, m, .str _, .tup _, _, h' => by simp [toPy, PyData.eqv, deq]
  | n, m, .lst _, .non, _, h' => by simp [toPy, PyData.eqv, deq]
  | n, m, .lst _, .int _, _, h' => by simp [toPy, PyData.eqv, deq]
  | n, m, .lst _, .bl _, _, h' => by simp [toPy, PyData.eqv, deq]
  | n, m, .lst _, .str _, _, h' => by simp [toPy, PyData.eqv, deq]
  | n, m, .lst _, .tup _, _, h' => by simp [toPy, PyData.eqv, deq]
  | n, m, .tup _, .non, _, h' => by simp [toPy, PyData.eqv, deq]
  | n, m, .tup _, .int _, _, h' => by simp [toPy, PyData.eqv, deq]
  | n, m, .tup _, .bl _, _, h' => by simp [toPy, PyData.eqv, deq]
  | n, m, .tup _, .str _, _, h' => by simp [toPy, PyData.eqv, deq]
  | n, m, .tup _, .lst _, _, h' => by simp [toPy, PyData.eqv, deq]
  | n, m, .dct _ _, _, h, _ => by cases n <;> simp [pln] at h
  | n, m, .cod _ _ _, _, h, _ => by cases n <;> simp [pln] at h
  | n, m, .bl _, .dct _ _, _, h => by cases m <;> simp [pln] at h
  | n, m, .bl _, .cod _ _ _, _, h => by cases m <;> simp [pln] at h
  | n, m, .int _, .dct _ _, _, h => by cases m <;> simp [pln] at h
  | n, m, .int _, .cod _ _ _, _, h => by cases m <;> simp [pln] at h
  | n, m, .str _, .dct _ _, _, h => by cases m <;> simp [pln] at h
  | n, m, .str _, .cod _ _ _, _, h => by cases m <;> simp [pln] at h
  | n, m, .lst _, .dct _ _, _, h => by cases m <;> simp [pln] at h
  | n, m, .lst _, .cod _ _ _, _, h => by cases m <;> simp [pln] at h
  | n, m, .tup _, .dct _ _, _, h => by cases m <;> simp [pln] at h
  | n, m, .tup _, .cod _ _ _, _, h => by cases m <;> simp [pln] at h
theorem deqs_eqv : ∀ (n m : Nat) (xs ys : List D), plns n xs = true → plns m ys = true → PyData.eqvAll (toPys xs) (toPys ys) = deqs xs ys
  | n, m, [], [], _, _ => by simp [toPys, PyData.eqvAll, deqs]
  | n, m, [], _ :: _, _, _ => by simp [toPys, PyData.eqvAll, deqs]
  | n, m, _ :: _, [], _, _ => by simp [toPys, PyData.eqvAll, deqs]
  | n, m, x :: xs, y :: ys, h, h' => by
    have h : pln n x = true ∧ plns n xs = true := by simpa [plns] using h
    have h' : pln m y = true ∧ plns m ys = true := by simpa [plns] using h'
    simp [toPys, PyData.eqvAll, deqs, deq_eqv n m x y h.1 h'.1, deqs_eqv n m xs ys h.2 h'.2]
end
section
variable {K : PySem.W.Frag} {Φ : Fx} {F H : Hp}
mutual
theorem rep_dp (sm : Same F H) : ∀ (n : Nat) (d : D) (v : V), pln n d = true → Rep K Φ.cc F d v → Dp K H v (toPy d)
  | _, .non, _, _, h => by unfold Rep at h; subst h; unfold toPy; exact .non
  | _, .bl b, _, _, h => by unfold Rep at h; subst h; unfold toPy; exact .bl b
  | _, .int i, _, _, h => by unfold Rep at h; subst h; unfold toPy; exact .int i
  | _, .str w, _, _, h => by unfold Rep at h; subst h; unfold toPy; exact .str _
  | 0, .lst _, _, p, _ => by simp [pln] at p
  | 0, .tup _, _, p, _ => by simp [pln] at p
  | n + 1, .lst ds, _, p, h => by
    unfold Rep at h; unfold toPy
    obtain ⟨a, vs, rfl, h2, h3⟩ := h
    exact .lst (SqL.of (sm _ _ h2)) (reps_dp sm n ds vs (by simpa [pln] using p) h3)
  | n + 1, .tup ds, _, p, h => by
    unfold Rep at h; unfold toPy
    obtain ⟨a, o, vs, rfl, h2, h4, h3⟩ := h
    exact .tup (h4.sq (sm _ _ h2)) (reps_dp sm n ds vs (by simpa [pln] using p) h3)
  | 0, .dct _ _, _, p, _ => by simp [pln] at p
  | 0, .cod _ _ _, _, p, _ => by simp [pln] at p
  | n + 1, .dct _ _, _, p, _ => by simp [pln] at p
  | n + 1, .cod _ _ _, _, p, _ => by simp [pln] at p
theorem reps_dp (sm : Same F H) : ∀ (n : Nat) (ds : List D) (vs : List V), plns n ds = true → Reps K Φ.cc F ds vs → DpAll K H vs (toPys ds)
  | _, [], _, _, h => by rw [reps_nil] at h; subst h; unfold toPys; exact .nil
  | n, d :: r, _, p, h => by
    obtain ⟨v, r', rfl, h2, h3⟩ := reps_cons.mp h
    have p : pln n d = true ∧ plns n r = true := by simpa [plns] using p
    unfold toPys
    exact .cons (rep_dp sm n d v p.1 h2) (reps_dp sm n r r' p.2 h3)
end
theorem repB_dp (sm : Same F H) {n : Nat} {d : D} {v : V} (p : pln n d = true) (h : RepB K Φ F H d v) : Dp K H v (toPy d) := by
  rcases h with h | ⟨a, o, rfl, hn, e, c⟩
  · exact rep_dp sm n d v p h
  · cases d with
    | lst ds =>
      obtain ⟨vs, rfl, h⟩ := c
      cases n with
      | zero => simp [pln] at p
      | succ n =>
        unfold toPy
        exact .lst (.inl (.inl e)) (reps_dp sm n ds vs (by simpa [pln] using p) h)
    | dct _ _ => cases n <;> simp [pln] at p
    | _ => exact c.elim
end
end Cut
namespace Cut
open PySem PySem.Spec L2
open PyProof.Rows hiding St

/-! ### names, constants -/
def getV (i : Nat) : DS → Rs D := fun s => match s.env[i]? with
  | some (some (.im d)) => .ok d s
  | some (some (.own d)) => .ok d { s with env := s.env.set i (some (.im d)) }
  | _ => .bad
/-- read, not moved -/
def borV (i : Nat) : DS → Rs D := fun s => match s.env[i]? with
  | some (some (.im d)) => .ok d s
  | some (some (.own d)) => .ok d s
  | _ => .bad
def constE (d : D) : DS → Rs D := fun s => .ok d s

section
variable {X : Cx} {Φ : Fx} {W : WX}
theorem set_ne {α : Type} {l : List α} {i j : Nat} {x : α} (h : i ≠ j) : (l.set i x)[j]? = l[j]? := List.getElem?_set_ne h
/-- an own cell is frozen where it stands -/
theorem Rel.move {K : PySem.W.Frag} {F H : Hp} {σ : St} {s : DS} {i : Nat} {d : D} (R : Rel K Φ F σ H s) (e : s.env[i]? = some (some (.own d))) :
    ∃ F' v, σ[i]? = some (some v) ∧ Rep K Φ.cc F' d v ∧ Rel K Φ F' σ H { s with env := s.env.set i (some (.im d)) } ∧ ESt Φ σ s F H { s with env := s.env.set i (some (.im d)) } F' H := by
  obtain ⟨v, e1, a, o, rfl, h0, hf, hh, c⟩ := R.env i _ e
  have hi : i < s.env.length := (List.getElem?_eq_some_iff.mp e).1
  have sm : Same F (upd F a o) := fun b u q => by rw [upd_ne (ne_of_none q hf)]; exact q
  have hrep : Rep K Φ.cc (upd F a o) d (.ref a) := by
    cases d with
    | lst ds =>
      obtain ⟨vs, rfl, h⟩ := c
      unfold Rep
      exact ⟨a, vs, rfl, upd_same, h.mono sm⟩
    | dct ks ds =>
      obtain ⟨vs, h1, h⟩ := c
      unfold Rep
      exact ⟨a, o, vs, rfl, upd_same, h1, h.mono sm⟩
    | _ => exact c.elim
  have ownA : OwnAt σ s a := ⟨i, d, e, e1⟩
  have envc : ∀ (j : Nat) dv, (s.env.set i (some (.im d)))[j]? = some (some dv) → (j = i ∧ dv = .im d) ∨ (j ≠ i ∧ s.env[j]? = some (some dv)) := fun j dv q => by
    by_cases hj : i = j
    · subst hj
      rw [List.getElem?_set_self hi] at q
      cases q
      exact .inl ⟨rfl, rfl⟩
    · rw [set_ne hj] at q
      exact .inr ⟨fun z => hj z.symm, q⟩
  refine ⟨upd F a o, .ref a, e1, hrep, ⟨R.f0.trans sm, fun b u q => ?_, fun b u q => ?_, R.keep, R.srcH, R.srcN, by simpa using R.len, fun j dv q => ?_, fun j k d1 d2 b ne q1 q2 q3 q4 => ?_⟩, ⟨sm, fun _ _ _ q => q, fun b u q => ?_, fun b ⟨j, d1, q1, q2⟩ => ?_⟩⟩
  · by_cases hb : b = a
    · subst hb; rw [upd_same] at q; cases q; exact hh
    · rw [upd_ne hb] at q; exact R.fh _ _ q
  · by_cases hb : b = a
    · subst hb; exact .inr h0
    · rw [upd_ne hb] at q; exact R.new _ _ q
  · rcases envc j dv q with ⟨rfl, rfl⟩ | ⟨hj, q⟩
    · exact ⟨.ref a, e1, hrep⟩
    · obtain ⟨v, e2, h2⟩ := R.env j dv q
      refine ⟨v, e2, ?_⟩
      cases dv with
      | im d1 => exact Rep.mono sm _ _ h2
      | own d1 =>
        obtain ⟨b, u, rfl, g0, gf, gh, gc⟩ := h2
        have hb : b ≠ a := fun z => by subst z; exact R.apart j i d1 d b hj q e e2 e1
        exact ⟨b, u, rfl, g0, by rw [upd_ne hb]; exact gf, gh, gc.mono sm⟩
      | src => exact h2
      | me => exact h2
  · rcases envc j _ q1 with ⟨_, z⟩ | ⟨_, q1⟩
    · cases z
    · rcases envc k _ q2 with ⟨_, z⟩ | ⟨_, q2⟩
      · cases z
      · exact R.apart j k d1 d2 b ne q1 q2 q3 q4
  · by_cases hb : b = a
    · subst hb; exact .inr (.inr ownA)
    · rw [upd_ne hb] at q; exact .inl q
  · rcases envc j _ q1 with ⟨_, z⟩ | ⟨_, q1⟩
    · cases z
    · exact ⟨j, d1, q1, q2⟩

theorem de_var {i : Nat} {x : Str} {pos : Pos} (hN : X.N[i]? = some x) (hv : Vis X.env.scope x) (hd : (x == ("__debug__" : Str)) = false) (hcd : (x == ("__classdict__" : Str)) = false) : DE X Φ W (.Name x pos) (getV i) :=
  PE.imp (pe_var hN hv hd hcd) fun σ H Q ⟨F, s, R, h⟩ => by
    unfold getV at h
    cases e : s.env[i]? with
    | none => rw [e] at h; exact h.elim
    | some o => cases o with
      | none => rw [e] at h; exact h.elim
      | some dv => cases dv with
        | im d =>
          rw [e] at h
          obtain ⟨v, e1, h1⟩ := R.env i _ e
          exact ⟨v, e1, h F H R .refl v h1⟩
        | own d =>
          rw [e] at h
          obtain ⟨F', v, e1, h1, R', st⟩ := R.move e
          exact ⟨v, e1, h F' H R' st v h1⟩
        | src => rw [e] at h; exact h.elim
        | me => rw [e] at h; exact h.elim
theorem db_var {i : Nat} {x : Str} {pos : Pos} (hN : X.N[i]? = some x) (hv : Vis X.env.scope x) (hd : (x == ("__debug__" : Str)) = false) (hcd : (x == ("__classdict__" : Str)) = false) : DB X Φ W (.Name x pos) (borV i) :=
  PE.imp (pe_var hN hv hd hcd) fun σ H Q ⟨F, s, R, h⟩ => by
    unfold borV at h
    cases e : s.env[i]? with
    | none => rw [e] at h; exact h.elim
    | some o => cases o with
      | none => rw [e] at h; exact h.elim
      | some dv => cases dv with
        | im d =>
          rw [e] at h
          obtain ⟨v, e1, h1⟩ := R.env i _ e
          exact ⟨v, e1, h F H R .refl v (.inl h1)⟩
        | own d =>
          rw [e] at h
          obtain ⟨v, e1, a, o, rfl, h0, hf, hh, c⟩ := R.env i _ e
          exact ⟨_, e1, h F H R .refl _ (.inr ⟨a, o, rfl, R.notOwn ⟨i, d, e, e1⟩, hh, c⟩)⟩
        | src => rw [e] at h; exact h.elim
        | me => rw [e] at h; exact h.elim
theorem de_int {i : Int} {j pos} : DE X Φ W (.Constant (.int i) j pos) (constE (.int i)) := PE.imp pe_int fun σ H Q ⟨F, s, R, h⟩ => h F H R .refl _ rep_int
theorem de_bl {b : Bool} {j pos} : DE X Φ W (.Constant (.bool b) j pos) (constE (.bl b)) := PE.imp pe_bl fun σ H Q ⟨F, s, R, h⟩ => h F H R .refl _ rep_bl
theorem de_non {j pos} : DE X Φ W (.Constant .none j pos) (constE .non) := PE.imp pe_non fun σ H Q ⟨F, s, R, h⟩ => h F H R .refl _ rep_non
theorem de_str {x : Str} {w : Wd} {j pos} (e : x = S w) : DE X Φ W (.Constant (.str x) j pos) (constE (.str w)) := PE.imp pe_str fun σ H Q ⟨F, s, R, h⟩ => by
  rw [e]; exact h F H R .refl _ rep_str
/-- a constant of the module: an int or a text -/
theorem de_glob {x : Str} {d : D} {u : Value} {v : V} {pos : Pos} (hg : Gl X x) (hm : X.mg x = some u) (r : RelV v u) (hr : ∀ F, Rep X.K Φ.cc F d v) (hd : (x == ("__debug__" : Str)) = false) : DE X Φ W (.Name x pos) (constE d) :=
  PE.imp (pe_glob hg hm r hd) fun σ H Q ⟨F, s, R, h⟩ => h F H R .refl _ (hr F)

/-! ### operators -/
/-- by values: what a datum operation asks of a machine operation -/
def rD (K : PySem.W.Frag) (Φ : Fx) (op : D → D → Option D) : R2 := fun x y H Q => ∃ F d e z, Same F H ∧ RepB K Φ F H d x ∧ RepB K Φ F H e y ∧ op d e = some z ∧ ∀ F' H' v, Gr F H F' H' → Rep K Φ.cc F' z v → Q v H'
/-- .. that makes a new object -/
def rN (K : PySem.W.Frag) (Φ : Fx) (op : D → D → Option D) : R2 := fun x y H Q => ∃ F d e z, Same F H ∧ RepB K Φ F H d x ∧ RepB K Φ F H e y ∧ op d e = some z ∧ ∀ p o, H p = none → CellO K Φ.cc F o z → Q (.ref p) (upd H p o)
abbrev OpD (X : Cx) (Φ : Fx) (f : Value → Value → Sem Value) (op : D → D → Option D) : Prop := OpR X f (rD X.K Φ op)
abbrev OpN (X : Cx) (Φ : Fx) (f : Value → Value → Sem Value) (op : D → D → Option D) : Prop := OpR X f (rN X.K Φ op)
def bin2 (op : D → D → Option D) (f g : DS → Rs D) : DS → Rs D := fun s => (f s).bind fun x s => (g s).bind fun y s => Rs.of (op x y) s
theorem two_read {K : PySem.W.Frag} {mg : Str → Option Value} {op : D → D → Option D} {f g : DS → Rs D} {σ : St} {H : Hp} {P : Hp → Hp → D → DS → Prop} {F : Hp} {s : DS} {Q : V → V → Hp → Prop} (R : Rel K Φ F σ H s)
    (h : Hold K mg Φ W F σ H s (bin2 op f g s) P)
    (q : ∀ F' H' x y d e z s', Rel K Φ F' σ H' s' → RepB K Φ F' H' d x → RepB K Φ F' H' e y → op d e = some z → (∀ F2 H2, Rel K Φ F2 σ H2 s' → ESt Φ σ s' F' H' s' F2 H2 → P F2 H2 z s') → Q x y H') :
    tBw K mg Φ W f σ H fun x H1 => tBw K mg Φ W g σ H1 fun y H2 => Q x y H2 := by
  refine ⟨F, s, R, (Hold.bind h).imp fun F1 H1 d s1 R1 e1 h1 v rv => ⟨F1, s1, R1, (Hold.bind h1).imp fun F2 H2 e s2 R2 e2 h2 u ru => ?_⟩⟩
  cases z : op d e with
  | none => rw [z] at h2; exact h2.elim
  | some w =>
    rw [z] at h2
    exact q F2 H2 v u d e w s2 R2 (rv.est e2) ru z h2
theorem de_bin {o : Operator} {op : D → D → Option D} {a b : Expr} {f g : DS → Rs D} {pos : Pos} (ho : OpD X Φ (binaryOp o) op) (ha : DB X Φ W a f) (hb : DB X Φ W b g) : DE X Φ W (.BinOp a o b pos) (bin2 op f g) :=
  PE.imp (pe_op ho ha hb) fun σ H Q ⟨F, s, R, h⟩ => two_read (Q := fun x y H2 => rD X.K Φ op x y H2 Q) R h fun F' H' x y d e z s' R' rx ry ez p =>
    ⟨F', d, e, z, R'.fh, rx, ry, ez, fun F2 H2 v g rv => p F2 H2 (R'.gr g) g.est v rv⟩
theorem df_bin {o : Operator} {op : D → D → Option D} {a b : Expr} {f g : DS → Rs D} {pos : Pos} (ho : OpN X Φ (binaryOp o) op) (ha : DB X Φ W a f) (hb : DB X Φ W b g) : DF X Φ W (.BinOp a o b pos) (bin2 op f g) :=
  PE.imp (pe_op ho ha hb) fun σ H Q ⟨F, s, R, h⟩ => two_read (Q := fun x y H2 => rN X.K Φ op x y H2 Q) R h fun F' H' x y d e z s' R' rx ry ez p =>
    ⟨F', d, e, z, R'.fh, rx, ry, ez, fun q o nq c => p F' H' R' .refl q o nq c⟩
theorem de_cmp {o : CmpOp} {op : D → D → Option D} {a b : Expr} {f g : DS → Rs D} {pos : Pos} (ho : OpD X Φ (compareOp o) op) (ha : DB X Φ W a f) (hb : DB X Φ W b g) (hm : behindInMarks o b = false) : DE X Φ W (.Compare a [o] [b] pos) (bin2 op f g) :=
  PE.imp (pe_cmpR ho ha hb hm) fun σ H Q ⟨F, s, R, h⟩ => two_read (Q := fun x y H2 => rD X.K Φ op x y H2 Q) R h fun F' H' x y d e z s' R' rx ry ez p =>
    ⟨F', d, e, z, R'.fh, rx, ry, ez, fun F2 H2 v g rv => p F2 H2 (R'.gr g) g.est v rv⟩
/-- a subscript by values -/
theorem de_ix {op : D → D → Option D} {a b : Expr} {f g : DS → Rs D} {pos : Pos} (ho : IxR X (rD X.K Φ op)) (ha : DB X Φ W a f) (hb : DB X Φ W b g) (hs : PlainIx b) : DE X Φ W (.Subscript a b pos) (bin2 op f g) :=
  PE.imp (pe_ix ho ha hb hs) fun σ H Q ⟨F, s, R, h⟩ => two_read (Q := fun x y H2 => rD X.K Φ op x y H2 Q) R h fun F' H' x y d e z s' R' rx ry ez p =>
    ⟨F', d, e, z, R'.fh, rx, ry, ez, fun F2 H2 v g rv => p F2 H2 (R'.gr g) g.est v rv⟩
/-- a op b op' c -/
def chain (op op' : D → D → Option D) (f g h : DS → Rs D) : DS → Rs D := fun s => (f s).bind fun x s => (g s).bind fun y s => match op x y with
  | some (.bl true) => (h s).bind fun z s => Rs.of (op' y z) s
  | some (.bl false) => .ok (.bl false) s
  | _ => .bad
theorem de_chain {o o' : CmpOp} {op op' : D → D → Option D} {a b c : Expr} {f g h : DS → Rs D} {pos : Pos} (ho : OpD X Φ (compareOp o) op) (ho' : OpD X Φ (compareOp o') op') (ha : DB X Φ W a f) (hb : DB X Φ W b g) (hc : DB X Φ W c h)
    (hm : lastMarks [o, o'] [b, c] = false) : DE X Φ W (.Compare a [o, o'] [b, c] pos) (chain op op' f g h) :=
  PE.imp (pe_chain ho ho' ha hb hc hm) fun σ H Q ⟨F, s, R, h0⟩ => by
    refine ⟨F, s, R, (Hold.bind h0).imp fun F1 H1 d s1 R1 e1 h1 v rv => ⟨F1, s1, R1, (Hold.bind h1).imp fun F2 H2 e s2 R2 e2 h2 u ru => ?_⟩⟩
    cases z : op d e with
    | none => rw [z] at h2; exact h2.elim
    | some w =>
      rw [z] at h2
      refine ⟨F2, d, e, w, R2.fh, rv.est e2, ru, z, fun F3 H3 y g ry => ?_⟩
      cases w with
      | bl k =>
        refine ⟨k, by unfold Rep at ry; exact ry, ?_⟩
        have R3 := R2.gr g
        cases k with
        | false =>
          rw [if_neg Bool.false_ne_true]
          exact h2 F3 H3 R3 g.est _ rep_bl
        | true =>
          rw [if_pos rfl]
          refine ⟨F3, s2, R3, (Hold.bind (Hold.back R3 g.est h2)).imp fun F4 H4 c s4 R4 e4 h4 t rt => ?_⟩
          cases z' : op' e c with
          | none => rw [z'] at h4; exact h4.elim
          | some w' =>
            rw [z'] at h4
            exact ⟨F4, e, c, w', R4.fh, (ru.est (σ := σ) (s := s2) g.est).est e4, rt, z', fun F5 H5 v5 g5 r5 => h4 F5 H5 (R4.gr g5) g5.est v5 r5⟩
      | _ => exact h2.elim

/-! ### numbers -/
def LN : Nat := 16777216
def addD : D → D → Option D
  | .int i, .int j => some (.int (i + j))
  | .str x, .str y => if x.length + y.length ≤ LN then some (.str (x ++ y)) else none
  | .tup x, .tup y => if x.length + y.length ≤ LN then some (.tup (x ++ y)) else none
  | _, _ => none
def catD : D → D → Option D
  | .lst x, .lst y => if x.length + y.length ≤ LN then some (.lst (x ++ y)) else none
  | _, _ => none
def subD : D → D → Option D
  | .int i, .int j => some (.int (i - j))
  | _, _ => none
def mulD : D → D → Option D
  | .int i, .int j => if (-(2 ^ 64) < i ∧ i < 2 ^ 64) ∨ (-(2 ^ 64) < j ∧ j < 2 ^ 64) then some (.int (i * j)) else none
  | .str x, .int j => if -1000000 ≤ j ∧ j ≤ 1000000 ∧ x.length * j.toNat ≤ LN then some (.str (List.replicate j.toNat x).flatten) else none
  | .tup x, .int j => if x ≠ [] ∧ 2 ≤ j ∧ j ≤ 1000 ∧ x.length ≤ 1000 then some (.tup (List.replicate j.toNat x).flatten) else none
  | _, _ => none
def repD : D → D → Option D
  | .lst x, .int j => if -1000000 ≤ j ∧ j ≤ 1000000 ∧ x.length * j.toNat ≤ LN then some (.lst (List.replicate j.toNat x).flatten) else none
  | _, _ => none
def fdivD : D → D → Option D
  | .int i, .int j => if 0 < j ∧ j < 1073741824 then some (.int (i / j)) else none
  | _, _ => none
def modD : D → D → Option D
  | .int i, .int j => if 0 < j then some (.int (i % j)) else none
  | _, _ => none
theorem LN_eq : LN = sizeLine := by decide
theorem op_addD : OpD X Φ (binaryOp .Add) addD := by
  intro pins s σ H x y v u Q I rx ry ⟨F, d, e, z, sm, hx, hy, ez, q⟩
  cases d with
  | int i => cases e with
    | int j =>
      cases ez
      exact op_add pins s σ H x y v u Q I rx ry ⟨i, j, hx.int, hy.int, q F H _ (.refl sm) rep_int⟩
    | _ => cases ez
  | str a => cases e with
    | str b =>
      unfold addD at ez
      dsimp only at ez
      split at ez
      · cases ez
        refine op_add_str pins s σ H x y v u Q I rx ry ⟨S a, S b, hx.str, hy.str, ?_, ?_⟩
        · rw [S_len, S_len, ← LN_eq]; assumption
        · rw [S_app]; exact q F H _ (.refl sm) rep_str
      · cases ez
    | _ => cases ez
  | tup a => cases e with
    | tup b =>
      unfold addD at ez
      dsimp only at ez
      split at ez
      case isTrue hl =>
        cases ez
        obtain ⟨p1, o1, vs, rfl, g1, h1, t1, r1⟩ := hx.tup sm
        obtain ⟨p2, o2, us, rfl, g2, h2, t2, r2⟩ := hy.tup sm
        have l1 := r1.len
        have l2 := r2.len
        refine op_catX pins s σ H _ _ v u Q I rx ry ⟨p1, p2, vs, us, rfl, rfl, t1.sq h1, t2.sq h2, by rw [l1, l2, ← LN_eq]; exact hl, fun z => ?_, fun _ z => ?_, fun _ _ p o np tx => ?_⟩
        · subst z
          have : a = [] := by cases a with
            | nil => rfl
            | cons _ _ => simp at l1
          subst this
          exact q F H _ (.refl sm) (by unfold Rep; exact ⟨p2, o2, us, rfl, g2, t2, r2⟩)
        · subst z
          have : b = [] := by cases b with
            | nil => rfl
            | cons _ _ => simp at l2
          subst this
          exact q F H _ (.refl sm) (by unfold Rep; exact ⟨p1, o1, vs, rfl, g1, t1, by simpa using r1⟩)
        · have g := Gr.new (o := o) sm np
          exact q _ _ _ g (by unfold Rep; exact ⟨p, _, _, rfl, upd_same, tx, (r1.mono g.mono).app (r2.mono g.mono)⟩)
      · cases ez
    | _ => cases ez
  | _ => cases ez
theorem op_catD : OpN X Φ (binaryOp .Add) catD := by
  intro pins s σ H x y v u Q I rx ry ⟨F, d, e, z, sm, hx, hy, ez, q⟩
  cases d with
  | lst a => cases e with
    | lst b =>
      unfold catD at ez
      dsimp only at ez
      split at ez
      case isTrue hl =>
        cases ez
        obtain ⟨p1, vs, rfl, h1, r1⟩ := hx.lst sm
        obtain ⟨p2, us, rfl, h2, r2⟩ := hy.lst sm
        have l1 := r1.len
        have l2 := r2.len
        exact op_cat pins s σ H _ _ v u Q I rx ry ⟨p1, p2, vs, us, rfl, rfl, h1, h2, by rw [l1, l2, ← LN_eq]; exact hl, fun p np => q p _ np ⟨_, rfl, r1.app r2⟩⟩
      · cases ez
    | _ => cases ez
  | _ => cases ez
end
end Cut
namespace Cut
open PySem PySem.Spec L2
open PyProof.Rows hiding St

section
variable {X : Cx} {Φ : Fx} {W : WX}
theorem op_repD : OpN X Φ (binaryOp .Mult) repD := by
  intro pins s σ H x y v u Q I rx ry ⟨F, d, e, z, sm, hx, hy, ez, q⟩
  cases d with
  | lst a => cases e with
    | int j =>
      unfold repD at ez
      dsimp only at ez
      split at ez
      case isTrue hl =>
        cases ez
        obtain ⟨p1, vs, rfl, h1, r1⟩ := hx.lst sm
        have l1 := r1.len
        have rr : ∀ k : Nat, Reps X.K Φ.cc F (List.replicate k a).flatten (List.replicate k vs).flatten := fun k => by
          induction k with
          | zero => simp [reps_nil]
          | succ k ih => simp only [List.replicate_succ, List.flatten_cons]; exact r1.app ih
        exact op_rep pins s σ H _ _ v u Q I rx ry ⟨p1, j, vs, rfl, hy.int, h1, by omega, by omega, by rw [l1, ← LN_eq]; exact hl.2.2, fun p np => q p _ np ⟨_, rfl, rr _⟩⟩
      · cases ez
    | _ => cases ez
  | _ => cases ez
theorem op_subD : OpD X Φ (binaryOp .Sub) subD := by
  intro pins s σ H x y v u Q I rx ry ⟨F, d, e, z, sm, hx, hy, ez, q⟩
  cases d with
  | int i => cases e with
    | int j =>
      cases ez
      exact op_sub pins s σ H x y v u Q I rx ry ⟨i, j, hx.int, hy.int, q F H _ (.refl sm) rep_int⟩
    | _ => cases ez
  | _ => cases ez
theorem fold_rep (x : Array Nat) : ∀ (k : Nat) (acc : Array Nat), (List.replicate k x).foldl (· ++ ·) acc = acc ++ (List.replicate k x.toList).flatten.toArray
  | 0, acc => by simp
  | k + 1, acc => by
    rw [List.replicate_succ, List.foldl_cons, fold_rep x k (acc ++ x), List.replicate_succ, List.flatten_cons]
    apply Array.toList_inj.mp
    simp
theorem op_mulD : OpD X Φ (binaryOp .Mult) mulD := by
  intro pins s σ H x y v u Q I rx ry ⟨F, d, e, z, sm, hx, hy, ez, q⟩
  cases d with
  | int i => cases e with
    | int j =>
      unfold mulD at ez
      dsimp only at ez
      split at ez
      case isTrue hc =>
        cases ez
        exact op_mul pins s σ H x y v u Q I rx ry ⟨i, j, hx.int, hy.int, hc, q F H _ (.refl sm) rep_int⟩
      · cases ez
    | _ => cases ez
  | str a => cases e with
    | int j =>
      unfold mulD at ez
      dsimp only at ez
      split at ez
      case isTrue hl =>
        obtain ⟨h1, h2, h3⟩ := hl
        cases ez
        have ex := hx.str
        have ey := hy.int
        subst ex ey
        obtain ⟨t, rfl⟩ := rx
        obtain ⟨t', rfl⟩ := ry
        have hlen : (S a).length = a.length := S_len a
        have LN' : LN = 16777216 := rfl
        have fin : ∀ z : Str, z = S (List.replicate j.toNat a).flatten → EP X pins σ Q (.str z s.toks) { s with toks := s.toks + 1 } := fun z ez => by
          subst ez
          exact ⟨.str _, H, I.tok _, ⟨_, rfl⟩, q F H _ (.refl sm) rep_str⟩
        refine PySem.P.mul_str ?_ (fun hn he => ?_) (fun hn he => ?_) ?_
        · have e1 : ¬ j < -(2 ^ 63) := by omega
          have e2 : ¬ j ≥ 2 ^ 63 := by omega
          rw [decide_eq_false e1, decide_eq_false e2]; rfl
        · rw [hlen]
          have ha : a.length ≠ 0 := fun z => by simp [hlen, z] at he
          have h4 : a.length ≤ LN := by
            have : 1 ≤ j.toNat := by omega
            calc a.length = a.length * 1 := by omega
              _ ≤ a.length * j.toNat := Nat.mul_le_mul_left _ this
              _ ≤ LN := h3
          have : (2 ^ 63 - 1 : Int) / 1000000 ≤ (2 ^ 63 - 1) / j := by
            apply Int.le_ediv_of_mul_le (by omega)
            have : (2 ^ 63 - 1 : Int) / 1000000 * j ≤ (2 ^ 63 - 1 : Int) / 1000000 * 1000000 := by
              apply Int.mul_le_mul_of_nonneg_left h2 (by decide)
            have h5 : (2 ^ 63 - 1 : Int) / 1000000 * 1000000 ≤ 2 ^ 63 - 1 := by decide
            omega
          have h6 : (16777216 : Int) ≤ (2 ^ 63 - 1 : Int) / 1000000 := by decide
          omega
        · rw [hlen]
          have : (a.length * j.toNat) ≤ sizeLine := by rw [← LN_eq]; exact h3
          simp only [Builtin.Str.tooLong, gt_iff_lt, decide_eq_false_iff_not]
          omega
        · split
          case isTrue hn =>
            refine ⟨by decide, fin _ ?_⟩
            have : j.toNat = 0 := by omega
            rw [this]; rfl
          case isFalse hn =>
            split
            case isTrue hc =>
              show EP X pins σ Q (.str (S a) t) s
              refine ⟨.str (S a), H, I, ⟨_, rfl⟩, ?_⟩
              have e : (List.replicate j.toNat a).flatten = a := by
                rw [Bool.or_eq_true] at hc
                rcases hc with hc | hc
                · have : j = 1 := by simpa using hc
                  subst this; simp
                · have : a = [] := by
                    have : a.length = 0 := by simpa [hlen] using hc
                    exact List.eq_nil_of_length_eq_zero this
                  subst this; simp
              have := q F H _ (.refl sm) (rep_str (w := (List.replicate j.toNat a).flatten))
              rw [e] at this
              exact this
            case isFalse hc =>
              have e : (⟨(List.replicate j.toNat (S a).cps).foldl (· ++ ·) #[]⟩ : Str) = S (List.replicate j.toNat a).flatten := by
                show (⟨_⟩ : Str) = ⟨_⟩
                rw [fold_rep]
                simp [S]
              refine ⟨?_, fin _ e⟩
              rw [e, S_len, ← LN_eq]
              simpa [Nat.mul_comm] using h3
      · cases ez
    | _ => cases ez
  | tup a => cases e with
    | int j =>
      unfold mulD at ez
      dsimp only at ez
      split at ez
      case isTrue hl =>
        cases ez
        obtain ⟨p1, o1, vs, rfl, g1, h1, t1, r1⟩ := hx.tup sm
        have l1 := r1.len
        have rr : ∀ {F' : Hp}, Same F F' → ∀ k : Nat, Reps X.K Φ.cc F' (List.replicate k a).flatten (List.replicate k vs).flatten := fun {F'} sm' k => by
          induction k with
          | zero => simp [reps_nil]
          | succ k ih => simp only [List.replicate_succ, List.flatten_cons]; exact (r1.mono sm').app ih
        refine op_repX pins s σ H _ _ v u Q I rx ry ⟨p1, j, vs, rfl, hy.int, t1.sq h1, ?_, hl.2.1, hl.2.2.1, by rw [l1]; exact hl.2.2.2, fun p o np tx => ?_⟩
        · intro z; subst z; simp at l1; exact hl.1 (List.eq_nil_of_length_eq_zero l1.symm)
        · have g := Gr.new (o := o) sm np
          exact q _ _ _ g (by unfold Rep; exact ⟨p, _, _, rfl, upd_same, tx, rr g.mono _⟩)
      · cases ez
    | _ => cases ez
  | _ => cases ez
theorem op_fdivD : OpD X Φ (binaryOp .FloorDiv) fdivD := by
  intro pins s σ H x y v u Q I rx ry ⟨F, d, e, z, sm, hx, hy, ez, q⟩
  cases d with
  | int i => cases e with
    | int j =>
      unfold fdivD at ez
      dsimp only at ez
      split at ez
      case isTrue hl =>
        cases ez
        exact op_fdiv pins s σ H x y v u Q I rx ry ⟨i, j, hx.int, hy.int, hl, q F H _ (.refl sm) rep_int⟩
      · cases ez
    | _ => cases ez
  | _ => cases ez
theorem op_modD : OpD X Φ (binaryOp .Mod) modD := by
  intro pins s σ H x y v u Q I rx ry ⟨F, d, e, z, sm, hx, hy, ez, q⟩
  cases d with
  | int i => cases e with
    | int j =>
      unfold modD at ez
      dsimp only at ez
      split at ez
      case isTrue hl =>
        cases ez
        exact op_mod pins s σ H x y v u Q I rx ry ⟨i, j, hx.int, hy.int, hl, q F H _ (.refl sm) rep_int⟩
      · cases ez
    | _ => cases ez
  | _ => cases ez

/-! ### comparisons -/
def eqD (d e : D) : Option D := if pln 8 d && pln 8 e then some (.bl (deq d e)) else none
def neD (d e : D) : Option D := if pln 8 d && pln 8 e then some (.bl (!deq d e)) else none
theorem op_eqD' (hu : X.A.units + 64 < cLine) : OpD X Φ (compareOp .Eq) eqD := by
  intro pins s σ H x y v u Q I rx ry ⟨F, d, e, z, sm, hx, hy, ez, q⟩
  unfold eqD at ez
  split at ez
  case isTrue hl =>
    cases ez
    rw [Bool.and_eq_true] at hl
    obtain ⟨as, r1⟩ := Dp.reads I _ x v (repB_dp sm hl.1 hx) rx
    obtain ⟨bs, r2⟩ := Dp.reads I _ y u (repB_dp sm hl.2 hy) ry
    have p1 := pln_plain 8 d hl.1
    have p2 := pln_plain 8 e hl.2
    refine PySem.SeqAt.eq_plain r1 r2 p1.1 p2.1 ?_ ⟨.bl _, H, I, rfl, by rw [deq_eqv 8 8 d e hl.1 hl.2]; exact q F H _ (.refl sm) rep_bl⟩
    have : min (toPy d).depth (toPy e).depth ≤ (toPy d).depth := Nat.min_le_left _ _
    omega
  · cases ez
theorem op_neD' (hu : X.A.units + 64 < cLine) : OpD X Φ (compareOp .NotEq) neD := by
  intro pins s σ H x y v u Q I rx ry ⟨F, d, e, z, sm, hx, hy, ez, q⟩
  unfold neD at ez
  split at ez
  case isTrue hl =>
    cases ez
    rw [Bool.and_eq_true] at hl
    obtain ⟨as, r1⟩ := Dp.reads I _ x v (repB_dp sm hl.1 hx) rx
    obtain ⟨bs, r2⟩ := Dp.reads I _ y u (repB_dp sm hl.2 hy) ry
    have p1 := pln_plain 8 d hl.1
    have p2 := pln_plain 8 e hl.2
    refine PySem.SeqAt.ne_plain r1 r2 p1.1 p2.1 ?_ ⟨.bl _, H, I, rfl, by rw [deq_eqv 8 8 d e hl.1 hl.2]; exact q F H _ (.refl sm) rep_bl⟩
    have : min (toPy d).depth (toPy e).depth ≤ (toPy d).depth := Nat.min_le_left _ _
    omega
  · cases ez
def ltD : D → D → Option D
  | .int i, .int j => some (.bl (decide (i < j)))
  | .str x, .str y => some (.bl (decide (x < y)))
  | _, _ => none
def gtD : D → D → Option D
  | .int i, .int j => some (.bl (decide (j < i)))
  | .str x, .str y => some (.bl (decide (y < x)))
  | _, _ => none
def leD : D → D → Option D
  | .int i, .int j => some (.bl (decide (i ≤ j)))
  | _, _ => none
def geD : D → D → Option D
  | .int i, .int j => some (.bl (decide (j ≤ i)))
  | _, _ => none
theorem op_ltD : OpD X Φ (compareOp .Lt) ltD := by
  intro pins s σ H x y v u Q I rx ry ⟨F, d, e, z, sm, hx, hy, ez, q⟩
  cases d with
  | int i => cases e with
    | int j => cases ez; exact op_lt pins s σ H x y v u Q I rx ry ⟨i, j, hx.int, hy.int, q F H _ (.refl sm) rep_bl⟩
    | _ => cases ez
  | str i => cases e with
    | str j => cases ez; exact op_lt_str pins s σ H x y v u Q I rx ry ⟨S i, S j, hx.str, hy.str, by rw [S_cps, S_cps]; exact q F H _ (.refl sm) rep_bl⟩
    | _ => cases ez
  | _ => cases ez
theorem op_gtD : OpD X Φ (compareOp .Gt) gtD := by
  intro pins s σ H x y v u Q I rx ry ⟨F, d, e, z, sm, hx, hy, ez, q⟩
  cases d with
  | int i => cases e with
    | int j => cases ez; exact op_gt pins s σ H x y v u Q I rx ry ⟨i, j, hx.int, hy.int, q F H _ (.refl sm) rep_bl⟩
    | _ => cases ez
  | str i => cases e with
    | str j => cases ez; exact op_gt_str pins s σ H x y v u Q I rx ry ⟨S i, S j, hx.str, hy.str, by rw [S_cps, S_cps]; exact q F H _ (.refl sm) rep_bl⟩
    | _ => cases ez
  | _ => cases ez
theorem op_leD : OpD X Φ (compareOp .LtE) leD := by
  intro pins s σ H x y v u Q I rx ry ⟨F, d, e, z, sm, hx, hy, ez, q⟩
  cases d with
  | int i => cases e with
    | int j => cases ez; exact op_le pins s σ H x y v u Q I rx ry ⟨i, j, hx.int, hy.int, q F H _ (.refl sm) rep_bl⟩
    | _ => cases ez
  | _ => cases ez
theorem op_geD : OpD X Φ (compareOp .GtE) geD := by
  intro pins s σ H x y v u Q I rx ry ⟨F, d, e, z, sm, hx, hy, ez, q⟩
  cases d with
  | int i => cases e with
    | int j => cases ez; exact op_ge pins s σ H x y v u Q I rx ry ⟨i, j, hx.int, hy.int, q F H _ (.refl sm) rep_bl⟩
    | _ => cases ez
  | _ => cases ez
/-- is None, is not None -/
def nonD : D → Bool
  | .non => true
  | _ => false
def isND (d e : D) : Option D := match e with
  | .non => some (.bl (nonD d))
  | _ => none
def notND (d e : D) : Option D := match e with
  | .non => some (.bl (!nonD d))
  | _ => none
theorem repB_non {K : PySem.W.Frag} {F H : Hp} {d : D} {v : V} (h : RepB K Φ F H d v) : decide (v = .non) = nonD d := by
  cases d with
  | non => rw [h.non]; rfl
  | bl b => rw [h.bl]; rfl
  | int b => rw [h.int]; rfl
  | str b => rw [h.str]; rfl
  | lst _ => rcases h with h | ⟨a, o, rfl, _⟩
             · unfold Rep at h; obtain ⟨a, vs, rfl, _⟩ := h; rfl
             · rfl
  | tup _ => rcases h with h | ⟨a, o, rfl, _⟩
             · unfold Rep at h; obtain ⟨a, _, vs, rfl, _⟩ := h; rfl
             · rfl
  | dct _ _ => rcases h with h | ⟨a, o, rfl, _⟩
               · unfold Rep at h; obtain ⟨a, o, vs, rfl, _⟩ := h; rfl
               · rfl
  | cod _ _ _ => rcases h with h | ⟨a, o, rfl, _⟩
                 · unfold Rep at h; obtain ⟨a, rfl, _⟩ := h; rfl
                 · rfl
theorem op_isND : OpD X Φ (compareOp .Is) isND := by
  intro pins s σ H x y v u Q I rx ry ⟨F, d, e, z, sm, hx, hy, ez, q⟩
  cases e with
  | non => cases ez; exact op_isN pins s σ H x y v u Q I rx ry ⟨hy.non, by rw [repB_non hx]; exact q F H _ (.refl sm) rep_bl⟩
  | _ => cases ez
theorem op_notND : OpD X Φ (compareOp .IsNot) notND := by
  intro pins s σ H x y v u Q I rx ry ⟨F, d, e, z, sm, hx, hy, ez, q⟩
  cases e with
  | non =>
    cases ez
    refine op_notN pins s σ H x y v u Q I rx ry ⟨hy.non, ?_⟩
    rw [repB_non hx]
    exact q F H _ (.refl sm) rep_bl
  | _ => cases ez

/-! ### in -/
def anyD (d : D) : List D → Bool
  | [] => false
  | x :: r => deq x d || anyD d r
theorem anyD_eqv (n m : Nat) (d : D) (hd : pln m d = true) : ∀ xs : List D, plns n xs = true → ((toPys xs).any fun y => PyData.eqv y (toPy d)) = anyD d xs
  | [], _ => rfl
  | x :: r, h => by
    have h : pln n x = true ∧ plns n r = true := by simpa [plns] using h
    simp [toPys, anyD, deq_eqv n m x d h.1 hd, anyD_eqv n m d hd r h.2]
def inD (d e : D) : Option D := match e with
  | .lst xs => if plns 8 xs && pln 8 d then some (.bl (anyD d xs)) else none
  | .tup xs => if plns 8 xs && pln 8 d then some (.bl (anyD d xs)) else none
  | .str z => match d with
    | .str [c] => some (.bl (decide (c ∈ z)))
    | _ => none
  | _ => none
def ninD (d e : D) : Option D := match e with
  | .lst xs => if plns 8 xs && pln 8 d then some (.bl (!anyD d xs)) else none
  | .tup xs => if plns 8 xs && pln 8 d then some (.bl (!anyD d xs)) else none
  | .str z => match d with
    | .str [c] => some (.bl (!decide (c ∈ z)))
    | _ => none
  | _ => none
theorem pln_lst {n : Nat} {xs : List D} : pln (n + 1) (.lst xs) = plns n xs := by simp [pln]
theorem pln_tup {n : Nat} {xs : List D} : pln (n + 1) (.tup xs) = plns n xs := by simp [pln]
theorem op_inD' (hu : X.A.units + 64 < cLine) : OpD X Φ (compareOp .In) inD := by
  intro pins s σ H x y v u Q I rx ry ⟨F, d, e, z, sm, hx, hy, ez, q⟩
  have dep : ∀ {n m : Nat}, m ≤ 8 → X.A.units + 1 + min n m < cLine := fun {n m} h => by
    have : min n m ≤ m := Nat.min_le_right _ _
    omega
  cases e with
  | lst xs =>
    unfold inD at ez
    dsimp only at ez
    split at ez
    case isTrue hl =>
      cases ez
      rw [Bool.and_eq_true] at hl
      obtain ⟨as, r1⟩ := Dp.reads I _ x v (repB_dp sm hl.2 hx) rx
      obtain ⟨bs, r2⟩ := Dp.reads I _ y u (repB_dp sm (n := 9) (by rw [pln_lst]; exact hl.1) hy) ry
      have p1 := pln_plain 8 d hl.2
      have p2 := plns_plain 8 xs hl.1
      unfold toPy at r2
      exact PySem.SeqAt.in_list_data r2 r1 p2.1 p1.1 (dep p1.2) ⟨.bl _, H, I, rfl, by rw [anyD_eqv 8 8 d hl.2 xs hl.1]; exact q F H _ (.refl sm) rep_bl⟩
    · cases ez
  | tup xs =>
    unfold inD at ez
    dsimp only at ez
    split at ez
    case isTrue hl =>
      cases ez
      rw [Bool.and_eq_true] at hl
      obtain ⟨as, r1⟩ := Dp.reads I _ x v (repB_dp sm hl.2 hx) rx
      obtain ⟨bs, r2⟩ := Dp.reads I _ y u (repB_dp sm (n := 9) (by rw [pln_tup]; exact hl.1) hy) ry
      have p1 := pln_plain 8 d hl.2
      have p2 := plns_plain 8 xs hl.1
      unfold toPy at r2
      exact PySem.SeqAt.in_tuple_data r2 r1 p2.1 p1.1 (dep p1.2) ⟨.bl _, H, I, rfl, by rw [anyD_eqv 8 8 d hl.2 xs hl.1]; exact q F H _ (.refl sm) rep_bl⟩
    · cases ez
  | str z =>
    unfold inD at ez
    dsimp only at ez
    split at ez
    case h_1 c =>
      cases ez
      exact op_in_sign pins s σ H x y v u Q I rx ry ⟨c, S z, hx.str, hy.str, by rw [S_cps]; exact q F H _ (.refl sm) rep_bl⟩
    · cases ez
  | _ => cases ez
theorem op_ninD' (hu : X.A.units + 64 < cLine) : OpD X Φ (compareOp .NotIn) ninD := by
  intro pins s σ H x y v u Q I rx ry ⟨F, d, e, z, sm, hx, hy, ez, q⟩
  have dep : ∀ {n m : Nat}, m ≤ 8 → X.A.units + 1 + min n m < cLine := fun {n m} h => by
    have : min n m ≤ m := Nat.min_le_right _ _
    omega
  cases e with
  | lst xs =>
    unfold ninD at ez
    dsimp only at ez
    split at ez
    case isTrue hl =>
      cases ez
      rw [Bool.and_eq_true] at hl
      obtain ⟨as, r1⟩ := Dp.reads I _ x v (repB_dp sm hl.2 hx) rx
      obtain ⟨bs, r2⟩ := Dp.reads I _ y u (repB_dp sm (n := 9) (by rw [pln_lst]; exact hl.1) hy) ry
      have p1 := pln_plain 8 d hl.2
      have p2 := plns_plain 8 xs hl.1
      unfold toPy at r2
      exact PySem.SeqAt.notIn_list_data r2 r1 p2.1 p1.1 (dep p1.2) ⟨.bl _, H, I, rfl, by rw [anyD_eqv 8 8 d hl.2 xs hl.1]; exact q F H _ (.refl sm) rep_bl⟩
    · cases ez
  | tup xs =>
    unfold ninD at ez
    dsimp only at ez
    split at ez
    case isTrue hl =>
      cases ez
      rw [Bool.and_eq_true] at hl
      obtain ⟨as, r1⟩ := Dp.reads I _ x v (repB_dp sm hl.2 hx) rx
      obtain ⟨bs, r2⟩ := Dp.reads I _ y u (repB_dp sm (n := 9) (by rw [pln_tup]; exact hl.1) hy) ry
      have p1 := pln_plain 8 d hl.2
      have p2 := plns_plain 8 xs hl.1
      unfold toPy at r2
      exact PySem.SeqAt.notIn_tuple_data r2 r1 p2.1 p1.1 (dep p1.2) ⟨.bl _, H, I, rfl, by rw [anyD_eqv 8 8 d hl.2 xs hl.1]; exact q F H _ (.refl sm) rep_bl⟩
    · cases ez
  | str z =>
    unfold ninD at ez
    dsimp only at ez
    split at ez
    case h_1 c =>
      cases ez
      exact op_notIn_sign pins s σ H x y v u Q I rx ry ⟨c, S z, hx.str, hy.str, by rw [S_cps]; exact q F H _ (.refl sm) rep_bl⟩
    · cases ez
  | _ => cases ez

/-! ### subscripts -/
def ixD : D → D → Option D
  | .lst xs, .int i => atI xs i
  | .tup xs, .int i => atI xs i
  | .str w, .int i => if w.length ≤ LN then (atI w i).map fun c => .str [c] else none
  | _, _ => none
theorem atI_reps {K : PySem.W.Frag} {F : Hp} {cc : Addr} {ds : List D} {vs : List V} {i : Int} {d : D} (r : Reps K cc F ds vs) (h : atI ds i = some d) : ∃ v, atI vs i = some v ∧ Rep K cc F d v := by
  unfold atI at h ⊢
  rw [r.len]
  cases e : ixN ds.length i with
  | none => rw [e] at h; cases h
  | some j => rw [e] at h; exact r.get h
theorem ix_D : IxR X (rD X.K Φ ixD) := by
  intro value slice pins s σ H x y v u Q I rx ry ⟨F, d, e, z, sm, hx, hy, ez, q⟩ hs
  cases d with
  | lst xs => cases e with
    | int i =>
      obtain ⟨a, vs, rfl, h1, r1⟩ := hx.lst sm
      obtain ⟨w, h2, r2⟩ := atI_reps r1 (show atI xs i = some z from ez)
      exact ix_list value slice pins s σ H _ y v u Q I rx ry ⟨a, vs, i, w, rfl, hy.int, .of h1, h2, q F H _ (.refl sm) r2⟩ hs
    | _ => cases ez
  | tup xs => cases e with
    | int i =>
      obtain ⟨a, o, vs, rfl, g1, h1, t1, r1⟩ := hx.tup sm
      obtain ⟨w, h2, r2⟩ := atI_reps r1 (show atI xs i = some z from ez)
      exact ix_tup value slice pins s σ H _ y v u Q I rx ry ⟨a, vs, i, w, rfl, hy.int, t1.sq h1, h2, q F H _ (.refl sm) r2⟩ hs
    | _ => cases ez
  | str w => cases e with
    | int i =>
      unfold ixD at ez
      dsimp only at ez
      split at ez
      case isTrue hl =>
        obtain ⟨c, h2, rfl⟩ := Option.map_eq_some_iff.mp ez
        exact ix_str value slice pins s σ H x y v u Q I rx ry ⟨S w, i, c, hx.str, hy.int, by rw [S_len, ← LN_eq]; exact hl, by rw [S_cps]; exact h2, q F H _ (.refl sm) rep_str⟩ hs
      · cases ez
    | _ => cases ez
  | _ => cases ez
end
end Cut
namespace Cut
open PySem PySem.Spec L2
open PyProof.Rows hiding St

/-! ### argument lists, displays -/
def argsNil : DS → Rs (List D) := fun s => .ok [] s
def argsCons (f : DS → Rs D) (g : DS → Rs (List D)) : DS → Rs (List D) := fun s => (f s).bind fun d s => (g s).bind fun ds s => .ok (d :: ds) s
def tupS (g : DS → Rs (List D)) : DS → Rs D := fun s => (g s).bind fun ds s => if ds.length ≤ LN then .ok (.tup ds) s else .bad
def lstS (g : DS → Rs (List D)) : DS → Rs D := fun s => (g s).bind fun ds s => if ds.length ≤ LN then .ok (.lst ds) s else .bad
section
variable {X : Cx} {Φ : Fx} {W : WX} {e : Expr} {es : List Expr} {f : DS → Rs D} {g : DS → Rs (List D)} {pos : Pos}
theorem da_nil : DA X Φ W [] argsNil := PA.imp pa_nil fun σ H Q ⟨F, s, R, h⟩ => h F H R .refl [] (reps_nil.mpr rfl)
theorem dab_nil : DAb X Φ W [] argsNil := PA.imp pa_nil fun σ H Q ⟨F, s, R, h⟩ => h F H R .refl [] rfl
theorem da_cons (hs : starEach (e :: es) X.env = (false, eval e X.env) :: starEach es X.env) (ha : DE X Φ W e f) (hr : DA X Φ W es g) : DA X Φ W (e :: es) (argsCons f g) :=
  PA.imp (pa_cons ha hr hs) fun σ H Q ⟨F, s, R, h⟩ => ⟨F, s, R, (Hold.bind h).imp fun F1 H1 d s1 R1 e1 h1 v rv => ⟨F1, s1, R1, (Hold.bind h1).imp fun F2 H2 ds s2 R2 e2 h2 vs rvs =>
    h2 F2 H2 R2 .refl (v :: vs) (reps_cons.mpr ⟨v, vs, rfl, Rep.mono e2.mono _ _ rv, rvs⟩)⟩⟩
theorem dab_cons (hs : starEach (e :: es) X.env = (false, eval e X.env) :: starEach es X.env) (ha : DB X Φ W e f) (hr : DAb X Φ W es g) : DAb X Φ W (e :: es) (argsCons f g) :=
  PA.imp (pa_cons ha hr hs) fun σ H Q ⟨F, s, R, h⟩ => ⟨F, s, R, (Hold.bind h).imp fun F1 H1 d s1 R1 e1 h1 v rv => ⟨F1, s1, R1, (Hold.bind h1).imp fun F2 H2 ds s2 R2 e2 h2 vs rvs =>
    h2 F2 H2 R2 .refl (v :: vs) ⟨v, vs, rfl, rv.est e2, rvs⟩⟩⟩
theorem de_tup {k} (ha : DA X Φ W es g) : DE X Φ W (.Tuple es k pos) (tupS g) :=
  PE.imp (pe_tupX ha) fun σ H Q ⟨F, s, R, h⟩ => ⟨F, s, R, (Hold.bind h).imp fun F1 H1 ds s1 R1 e1 h1 vs rvs => by
    split at h1
    case isTrue hl =>
      refine ⟨by rw [rvs.len, ← LN_eq]; exact hl, fun p o np tx => ?_⟩
      have g := Gr.new (o := o) R1.fh np
      exact h1 _ _ (R1.gr g) g.est _ (by unfold Rep; exact ⟨p, o, vs, rfl, upd_same, tx, rvs.mono g.mono⟩)
    · exact h1.elim⟩
theorem df_lst (ha : DA X Φ W es g) : DF X Φ W (.List es pos) (lstS g) :=
  PE.imp (pe_lst ha) fun σ H Q ⟨F, s, R, h⟩ => ⟨F, s, R, (Hold.bind h).imp fun F1 H1 ds s1 R1 e1 h1 vs rvs => by
    split at h1
    case isTrue hl => exact ⟨by rw [rvs.len, ← LN_eq]; exact hl, fun p np => h1 F1 H1 R1 .refl p _ np ⟨vs, rfl, rvs⟩⟩
    · exact h1.elim⟩

/-! ### a built-in called -/
def rC (K : PySem.W.Frag) (Φ : Fx) (op : List D → Option D) : List V → Hp → VK → Prop := fun vs H Q => ∃ F ds z, Same F H ∧ RepsB K Φ F H ds vs ∧ op ds = some z ∧ ∀ F' H' v, Gr F H F' H' → Rep K Φ.cc F' z v → Q v H'
def rCN (K : PySem.W.Frag) (Φ : Fx) (op : List D → Option D) : List V → Hp → VK → Prop := fun vs H Q => ∃ F ds z, Same F H ∧ RepsB K Φ F H ds vs ∧ op ds = some z ∧ ∀ p o, H p = none → CellO K Φ.cc F o z → Q (.ref p) (upd H p o)
def calB (op : List D → Option D) (g : DS → Rs (List D)) : DS → Rs D := fun s => (g s).bind fun ds s => Rs.of (op ds) s
theorem of_hold {K : PySem.W.Frag} {mg : Str → Option Value} {F : Hp} {σ : St} {H : Hp} {s s' : DS} {o : Option D} {P : Hp → Hp → D → DS → Prop} (h : Hold K mg Φ W F σ H s (Rs.of o s') P) : ∃ z, o = some z ∧ ∀ F' H', Rel K Φ F' σ H' s' → ESt Φ σ s F H s' F' H' → P F' H' z s' := by
  cases o with
  | none => exact h.elim
  | some z => exact ⟨z, rfl, h⟩
theorem de_calB {x : Str} {id : String} {op : List D → Option D} {p : Pos} (hc : CallR X (.builtin id) (rC X.K Φ op)) (hg : Gl X x) (hm : X.mg x = none) (hv : bootBuiltins x = some (.builtin id)) (hn : x ≠ "__name__") (hdb : (x == ("__debug__" : Str)) = false)
    (he : starEach (e :: es) X.env = (false, eval e X.env) :: starEach es X.env) (hpl : (backTo pos (starEach es X.env)).any (·.1) = false) (ha : DAb X Φ W (e :: es) g) : DE X Φ W (.Call (.Name x p) (e :: es) [] pos) (calB op g) :=
  PE.imp (pe_callB hc hg hm hv ha hn hdb he hpl) fun σ H Q ⟨F, s, R, h⟩ => ⟨F, s, R, (Hold.bind h).imp fun F1 H1 ds s1 R1 e1 h1 vs rvs => by
    obtain ⟨z, ez, h2⟩ := of_hold h1
    exact ⟨F1, ds, z, R1.fh, rvs, ez, fun F2 H2 v g rv => h2 F2 H2 (R1.gr g) g.est v rv⟩⟩
theorem df_calB {x : Str} {id : String} {op : List D → Option D} {p : Pos} (hc : CallR X (.builtin id) (rCN X.K Φ op)) (hg : Gl X x) (hm : X.mg x = none) (hv : bootBuiltins x = some (.builtin id)) (hn : x ≠ "__name__") (hdb : (x == ("__debug__" : Str)) = false)
    (he : starEach (e :: es) X.env = (false, eval e X.env) :: starEach es X.env) (hpl : (backTo pos (starEach es X.env)).any (·.1) = false) (ha : DAb X Φ W (e :: es) g) : DF X Φ W (.Call (.Name x p) (e :: es) [] pos) (calB op g) :=
  PE.imp (pe_callB hc hg hm hv ha hn hdb he hpl) fun σ H Q ⟨F, s, R, h⟩ => ⟨F, s, R, (Hold.bind h).imp fun F1 H1 ds s1 R1 e1 h1 vs rvs => by
    obtain ⟨z, ez, h2⟩ := of_hold h1
    exact ⟨F1, ds, z, R1.fh, rvs, ez, fun p o np c => h2 F1 H1 R1 .refl p o np c⟩⟩
theorem de_calT {x : Str} {T : String} {op : List D → Option D} {p : Pos} (hc : CallR X (.type T) (rC X.K Φ op)) (hg : Gl X x) (hm : X.mg x = none) (hv : bootBuiltins x = some (.type T)) (hn : x ≠ "__name__") (hdb : (x == ("__debug__" : Str)) = false)
    (he : starEach (e :: es) X.env = (false, eval e X.env) :: starEach es X.env) (hpl : (backTo pos (starEach es X.env)).any (·.1) = false) (ha : DAb X Φ W (e :: es) g) : DE X Φ W (.Call (.Name x p) (e :: es) [] pos) (calB op g) :=
  PE.imp (pe_callTy hc hg hm hv ha hn hdb he hpl) fun σ H Q ⟨F, s, R, h⟩ => ⟨F, s, R, (Hold.bind h).imp fun F1 H1 ds s1 R1 e1 h1 vs rvs => by
    obtain ⟨z, ez, h2⟩ := of_hold h1
    exact ⟨F1, ds, z, R1.fh, rvs, ez, fun F2 H2 v g rv => h2 F2 H2 (R1.gr g) g.est v rv⟩⟩
theorem df_calT {x : Str} {T : String} {op : List D → Option D} {p : Pos} (hc : CallR X (.type T) (rCN X.K Φ op)) (hg : Gl X x) (hm : X.mg x = none) (hv : bootBuiltins x = some (.type T)) (hn : x ≠ "__name__") (hdb : (x == ("__debug__" : Str)) = false)
    (he : starEach (e :: es) X.env = (false, eval e X.env) :: starEach es X.env) (hpl : (backTo pos (starEach es X.env)).any (·.1) = false) (ha : DAb X Φ W (e :: es) g) : DF X Φ W (.Call (.Name x p) (e :: es) [] pos) (calB op g) :=
  PE.imp (pe_callTy hc hg hm hv ha hn hdb he hpl) fun σ H Q ⟨F, s, R, h⟩ => ⟨F, s, R, (Hold.bind h).imp fun F1 H1 ds s1 R1 e1 h1 vs rvs => by
    obtain ⟨z, ez, h2⟩ := of_hold h1
    exact ⟨F1, ds, z, R1.fh, rvs, ez, fun p o np c => h2 F1 H1 R1 .refl p o np c⟩⟩

/-! ### a method of a built-in type -/
def rM (K : PySem.W.Frag) (Φ : Fx) (op : D → List D → Option D) : V → List V → Hp → VK → Prop := fun x vs H Q => ∃ F d ds z, Same F H ∧ RepB K Φ F H d x ∧ RepsB K Φ F H ds vs ∧ op d ds = some z ∧ ∀ F' H' v, Gr F H F' H' → Rep K Φ.cc F' z v → Q v H'
def calM (op : D → List D → Option D) (f : DS → Rs D) (g : DS → Rs (List D)) : DS → Rs D := fun s => (f s).bind fun d s => (g s).bind fun ds s => Rs.of (op d ds) s

/-! ### tests -/
def valT (f : DS → Rs D) : DS → Rs Bool := fun s => (f s).bind fun d s => match d with
  | .bl b => .ok b s
  | _ => .bad
theorem val_hold {K : PySem.W.Frag} {mg : Str → Option Value} {F : Hp} {σ : St} {H : Hp} {s : DS} {P : Hp → Hp → Bool → DS → Prop} (h : Hold K mg Φ W F σ H s (valT f s) P) :
    Hold K mg Φ W F σ H s (f s) fun F1 H1 d s1 => ∀ v, Rep K Φ.cc F1 d v → ∃ b, v = .bl b ∧ P F1 H1 b s1 :=
  (Hold.bind h).imp fun F1 H1 d s1 R1 e1 h1 v rv => by
    cases d with
    | bl b => exact ⟨b, by unfold Rep at rv; exact rv, h1 F1 H1 R1 .refl⟩
    | _ => exact h1.elim
theorem dt_val (h : DE X Φ W e f) (he : ∀ whole, isTrue e X.env whole = (do let v ← whole; standAt e.pos; holding [v] (truthy v))) : DT X Φ W e (valT f) :=
  PT.imp (pt_val h he) fun σ H Q ⟨F, s, R, q⟩ => ⟨F, s, R, (val_hold q).imp fun F1 H1 d s1 R1 e1 h1 v rv => let ⟨b, e, p⟩ := h1 v rv; ⟨b, e, p⟩⟩
theorem dt_cmp {o : CmpOp} {op : D → D → Option D} {a b : Expr} {f g : DS → Rs D} (ho : OpD X Φ (compareOp o) op) (ha : DB X Φ W a f) (hb : DB X Φ W b g) (hm : behindInMarks o b = false) : DT X Φ W (.Compare a [o] [b] pos) (valT (bin2 op f g)) :=
  PT.imp (pt_cmpR ho ha hb hm) fun σ H Q ⟨F, s, R, h⟩ => two_read (Q := fun x y H2 => rD X.K Φ op x y H2 fun v H3 => ∃ k, v = .bl k ∧ Q k H3) R (val_hold h |> fun z => z) fun F' H' x y d e z s' R' rx ry ez p =>
    ⟨F', d, e, z, R'.fh, rx, ry, ez, fun F2 H2 v g rv => p F2 H2 (R'.gr g) g.est v rv⟩
theorem dt_chain {o o' : CmpOp} {op op' : D → D → Option D} {a b c : Expr} {f g h : DS → Rs D} (ho : OpD X Φ (compareOp o) op) (ho' : OpD X Φ (compareOp o') op') (ha : DB X Φ W a f) (hb : DB X Φ W b g) (hc : DB X Φ W c h)
    (hm : lastMarks [o, o'] [b, c] = false) : DT X Φ W (.Compare a [o, o'] [b, c] pos) (valT (chain op op' f g h)) :=
  PT.imp (pt_chain ho ho' ha hb hc hm) fun σ H Q ⟨F, s, R, h0⟩ => by
    have h0 := val_hold h0
    refine ⟨F, s, R, (Hold.bind h0).imp fun F1 H1 d s1 R1 e1 h1 v rv => ⟨F1, s1, R1, (Hold.bind h1).imp fun F2 H2 e s2 R2 e2 h2 u ru => ?_⟩⟩
    cases z : op d e with
    | none => rw [z] at h2; exact h2.elim
    | some w =>
      rw [z] at h2
      refine ⟨F2, d, e, w, R2.fh, rv.est e2, ru, z, fun F3 H3 y g ry => ?_⟩
      cases w with
      | bl k =>
        refine ⟨k, by unfold Rep at ry; exact ry, ?_⟩
        have R3 := R2.gr g
        cases k with
        | false =>
          rw [if_neg Bool.false_ne_true]
          exact h2 F3 H3 R3 g.est _ rep_bl
        | true =>
          rw [if_pos rfl]
          refine ⟨F3, s2, R3, (Hold.bind (Hold.back R3 g.est h2)).imp fun F4 H4 c s4 R4 e4 h4 t rt => ?_⟩
          obtain ⟨w', z', h4⟩ := of_hold h4
          exact ⟨F4, e, c, w', R4.fh, (ru.est (σ := σ) (s := s2) g.est).est e4, rt, z', fun F5 H5 v5 g5 r5 => h4 F5 H5 (R4.gr g5) g5.est v5 r5⟩
      | _ => exact h2.elim
abbrev DW (X : Cx) (Φ : Fx) (W : WX) (e : Expr) (f : DS → Rs Bool) : Prop := PW X e (tTs X.K X.mg Φ W f)
theorem PW.imp {X : Cx} {e : Expr} {t t' : TT} (h : PW X e t) (q : ∀ σ H Q, t' σ H Q → t σ H Q) : PW X e t' := ⟨fun wh pins s σ H Q I w => h.run wh pins s σ H Q I (q σ H Q w)⟩
def andT (f g : DS → Rs Bool) : DS → Rs Bool := fun s => (f s).bind fun b s => if b = true then g s else .ok false s
def orT (f g : DS → Rs Bool) : DS → Rs Bool := fun s => (f s).bind fun b s => if b = true then .ok true s else g s
def notT (f : DS → Rs Bool) : DS → Rs Bool := fun s => (f s).bind fun b s => .ok (!b) s
theorem dt_not {a : Expr} {f : DS → Rs Bool} (ha : DT X Φ W a f) : DT X Φ W (.UnaryOp .Not a pos) (notT f) :=
  PT.imp (pt_not ha) fun σ H Q ⟨F, s, R, h⟩ => ⟨F, s, R, (Hold.bind h).imp fun F1 H1 b s1 R1 e1 h1 => h1 F1 H1 R1 .refl⟩
theorem dw_one {a : Expr} {o : BoolOp} {f : DS → Rs Bool} (ha : DT X Φ W a f) : DW X Φ W (.BoolOp o [a] pos) f := by
  cases o with
  | And => exact pw_and1 ha
  | Or => exact pw_or1 ha
theorem dw_and {a b : Expr} {r : List Expr} {f g : DS → Rs Bool} (ha : DT X Φ W a f) (hb : DW X Φ W (.BoolOp .And (b :: r) pos) g) : DW X Φ W (.BoolOp .And (a :: b :: r) pos) (andT f g) :=
  PW.imp (pw_and ha hb) fun σ H Q ⟨F, s, R, h⟩ => ⟨F, s, R, (Hold.bind h).imp fun F1 H1 c s1 R1 e1 h1 => by
    cases c with
    | true => rw [if_pos rfl] at h1 ⊢; exact ⟨F1, s1, R1, h1⟩
    | false => rw [if_neg Bool.false_ne_true] at h1 ⊢; exact h1 F1 H1 R1 .refl⟩
theorem dw_or {a b : Expr} {r : List Expr} {f g : DS → Rs Bool} (ha : DT X Φ W a f) (hb : DW X Φ W (.BoolOp .Or (b :: r) pos) g) : DW X Φ W (.BoolOp .Or (a :: b :: r) pos) (orT f g) :=
  PW.imp (pw_or ha hb) fun σ H Q ⟨F, s, R, h⟩ => ⟨F, s, R, (Hold.bind h).imp fun F1 H1 c s1 R1 e1 h1 => by
    cases c with
    | true => rw [if_pos rfl] at h1 ⊢; exact h1 F1 H1 R1 .refl
    | false => rw [if_neg Bool.false_ne_true] at h1 ⊢; exact ⟨F1, s1, R1, h1⟩⟩
/-- as values -/
def andV (f g : DS → Rs D) : DS → Rs D := fun s => (f s).bind fun d s => match d with
  | .bl true => g s
  | .bl false => .ok (.bl false) s
  | _ => .bad
def orV (f g : DS → Rs D) : DS → Rs D := fun s => (f s).bind fun d s => match d with
  | .bl true => .ok (.bl true) s
  | .bl false => g s
  | _ => .bad
def notV (f : DS → Rs D) : DS → Rs D := fun s => (f s).bind fun d s => match d with
  | .bl b => .ok (.bl (!b)) s
  | _ => .bad
theorem de_one {a : Expr} {o : BoolOp} (ha : DE X Φ W a f) : DE X Φ W (.BoolOp o [a] pos) f := pe_one ha
theorem de_and {a b : Expr} {r : List Expr} {f g : DS → Rs D} (ha : DE X Φ W a f) (hb : DE X Φ W (.BoolOp .And (b :: r) pos) g) : DE X Φ W (.BoolOp .And (a :: b :: r) pos) (andV f g) :=
  PE.imp (pe_and ha hb) fun σ H Q ⟨F, s, R, h⟩ => ⟨F, s, R, (Hold.bind h).imp fun F1 H1 d s1 R1 e1 h1 v rv => by
    cases d with
    | bl c =>
      refine ⟨c, by unfold Rep at rv; exact rv, ?_⟩
      cases c with
      | true => rw [if_pos rfl]; exact ⟨F1, s1, R1, h1⟩
      | false => rw [if_neg Bool.false_ne_true]; exact h1 F1 H1 R1 .refl _ rep_bl
    | _ => exact h1.elim⟩
theorem de_or {a b : Expr} {r : List Expr} {f g : DS → Rs D} (ha : DE X Φ W a f) (hb : DE X Φ W (.BoolOp .Or (b :: r) pos) g) : DE X Φ W (.BoolOp .Or (a :: b :: r) pos) (orV f g) :=
  PE.imp (pe_or ha hb) fun σ H Q ⟨F, s, R, h⟩ => ⟨F, s, R, (Hold.bind h).imp fun F1 H1 d s1 R1 e1 h1 v rv => by
    cases d with
    | bl c =>
      refine ⟨c, by unfold Rep at rv; exact rv, ?_⟩
      cases c with
      | true => rw [if_pos rfl]; exact h1 F1 H1 R1 .refl _ rep_bl
      | false => rw [if_neg Bool.false_ne_true]; exact ⟨F1, s1, R1, h1⟩
    | _ => exact h1.elim⟩
theorem de_not {a : Expr} (ha : DE X Φ W a f) : DE X Φ W (.UnaryOp .Not a pos) (notV f) :=
  PE.imp (pe_not ha) fun σ H Q ⟨F, s, R, h⟩ => ⟨F, s, R, (Hold.bind h).imp fun F1 H1 d s1 R1 e1 h1 v rv => by
    cases d with
    | bl c => exact ⟨c, by unfold Rep at rv; exact rv, h1 F1 H1 R1 .refl _ rep_bl⟩
    | _ => exact h1.elim⟩
def ifE (c : DS → Rs Bool) (f g : DS → Rs D) : DS → Rs D := fun s => (c s).bind fun b s => if b = true then f s else g s
theorem de_if {c a b : Expr} {t : DS → Rs Bool} {f g : DS → Rs D} (hc : DT X Φ W c t) (ha : DE X Φ W a f) (hb : DE X Φ W b g) : DE X Φ W (.IfExp c a b pos) (ifE t f g) :=
  PE.imp (pe_ifExp hc ha hb) fun σ H Q ⟨F, s, R, h⟩ => ⟨F, s, R, (Hold.bind h).imp fun F1 H1 c s1 R1 e1 h1 => by
    cases c with
    | true => rw [if_pos rfl] at h1 ⊢; exact ⟨F1, s1, R1, h1⟩
    | false => rw [if_neg Bool.false_ne_true] at h1 ⊢; exact ⟨F1, s1, R1, h1⟩⟩
def negV (f : DS → Rs D) : DS → Rs D := fun s => (f s).bind fun d s => match d with
  | .int i => .ok (.int (-i)) s
  | _ => .bad
theorem de_neg {a : Expr} (ha : DE X Φ W a f) : DE X Φ W (.UnaryOp .USub a pos) (negV f) :=
  PE.imp (pe_un un_neg ha) fun σ H Q ⟨F, s, R, h⟩ => ⟨F, s, R, (Hold.bind h).imp fun F1 H1 d s1 R1 e1 h1 v rv => by
    cases d with
    | int i => exact ⟨i, by unfold Rep at rv; exact rv, h1 F1 H1 R1 .refl _ rep_int⟩
    | _ => exact h1.elim⟩
end
end Cut
namespace Cut
open PySem PySem.Spec L2
open PyProof.Rows hiding St

/-! ### defs of the text as data functions -/
inductive Rf where
  | ok (d : D) | exc (x : Xc) | bad
/-- without draws -/
abbrev PF := List D → Rf
inductive Rd where
  | ok (d : D) (s : Src) | exc (x : Xc) (s : Src) | bad
/-- with draws -/
abbrev SF := List D → Src → Rd

def spP (mg : Str → Option Value) (K : PySem.W.Frag) (cc : Addr) (f : PF) (n : Nat) : Sp := fun vs H Q E => ∃ F ds, Same F H ∧ Reps K cc F ds vs ∧ ds.length = n ∧ match f ds with
  | .ok d => ∀ F' H' v, Gr F H F' H' → Rep K cc F' d v → Q v H'
  | .exc x => ∀ F' H' cls od, Gr F H F' H' → XRel mg K cc F' H' x cls od → E cls od H'
  | .bad => False
/-- a step that may turn the source at a, b -/
structure GrS (a b : Addr) (F H F' H' : Hp) : Prop where
  mono : Same F F'
  keep : ∀ c o, c ≠ a → c ≠ b → H c = some o → H' c = some o
  fh : Same F' H'
  born : ∀ c o, F' c = some o → F c = some o ∨ H c = none
def spS (mg : Str → Option Value) (K : PySem.W.Frag) (cc : Addr) (f : SF) (n : Nat) : Sp := fun vs H Q E => ∃ F ds a b sr us, vs = .ref a :: us ∧ Same F H ∧ F a = none ∧ F b = none ∧ SrcAt H a b sr ∧ Reps K cc F ds us ∧ ds.length = n ∧ match f ds sr with
  | .ok d sr' => ∀ F' H' v, GrS a b F H F' H' → SrcAt H' a b sr' → Rep K cc F' d v → Q v H'
  | .exc x sr' => ∀ F' H' cls od, GrS a b F H F' H' → SrcAt H' a b sr' → XRel mg K cc F' H' x cls od → E cls od H'
  | .bad => False

structure GoodP (P : Program) (w : World) (K : PySem.W.Frag) (mg : Str → Option Value) (base : Heap) (cc : Addr) (k : Nat) (x : Str) (f : PF) (n : Nat) : Prop where
  ex : ∃ fa fd ps, mg x = some (.ref fa) ∧ FnOk P w K mg base (L2.CX P w) k fa fd ps (spP mg K cc f n) ∧ PySem.W.keepIn K (.ref fa) = true ∧ Binds K fd ps []
structure GoodS (P : Program) (w : World) (K : PySem.W.Frag) (mg : Str → Option Value) (base : Heap) (cc : Addr) (k : Nat) (x : Str) (f : SF) (n : Nat) : Prop where
  ex : ∃ fa fd ps, mg x = some (.ref fa) ∧ FnOk P w K mg base (L2.CX P w) k fa fd ps (spS mg K cc f n) ∧ PySem.W.keepIn K (.ref fa) = true ∧ Binds K fd ps []
theorem GoodP.up {P : Program} {w : World} {K : PySem.W.Frag} {mg : Str → Option Value} {base : Heap} {cc : Addr} {j k : Nat} {x : Str} {f : PF} {n : Nat} (g : GoodP P w K mg base cc j x f n) (h : j ≤ k) : GoodP P w K mg base cc k x f n :=
  ⟨let ⟨fa, fd, ps, h1, h2, h3, h4⟩ := g.ex; ⟨fa, fd, ps, h1, h2.mono h, h3, h4⟩⟩
theorem GoodS.up {P : Program} {w : World} {K : PySem.W.Frag} {mg : Str → Option Value} {base : Heap} {cc : Addr} {j k : Nat} {x : Str} {f : SF} {n : Nat} (g : GoodS P w K mg base cc j x f n) (h : j ≤ k) : GoodS P w K mg base cc k x f n :=
  ⟨let ⟨fa, fd, ps, h1, h2, h3, h4⟩ := g.ex; ⟨fa, fd, ps, h1, h2.mono h, h3, h4⟩⟩

def callP (f : PF) (n : Nat) (g : DS → Rs (List D)) : DS → Rs D := fun s => (g s).bind fun ds s => if ds.length = n then (match f ds with
  | .ok d => .ok d s
  | .exc x => .exc x s
  | .bad => .bad) else .bad
def callS (i : Nat) (f : SF) (n : Nat) (g : DS → Rs (List D)) : DS → Rs D := fun s => match s.env[i]? with
  | some (some .src) => (g s).bind fun ds s => if ds.length = n then (match f ds s.src with
    | .ok d sr => .ok d { s with src := sr }
    | .exc x sr => .exc x { s with src := sr }
    | .bad => .bad) else .bad
  | _ => .bad

section
variable {X : Cx} {Φ : Fx} {W : WX} {e : Expr} {es : List Expr} {f : DS → Rs D} {g : DS → Rs (List D)} {pos : Pos} {k n : Nat}
/-- f(..), no draws -/
theorem de_call {x : Str} {fn : PF} {p : Pos} (G : GoodP X.prog X.w X.K X.mg X.base Φ.cc k x fn n) (hr : Room k X.A) (tk : Takes X W) (hg : Gl X x) (hdb : (x == ("__debug__" : Str)) = false)
    (he : starEach (e :: es) X.env = (false, eval e X.env) :: starEach es X.env) (hpl : (backTo pos (starEach es X.env)).any (·.1) = false) (ha : DA X Φ W (e :: es) g) : DE X Φ W (.Call (.Name x p) (e :: es) [] pos) (callP fn n g) := by
  obtain ⟨fa, fd, ps, hm, F, hk, hb⟩ := G.ex
  refine PE.imp (pe_callSD (E := WE W) F hr hg hm hk hb .nil (fun σ => passAt tk σ) ha hdb he hpl) fun σ H Q ⟨F, s, R, h⟩ => ⟨F, s, R, (Hold.bind h).imp fun F1 H1 ds s1 R1 e1 h1 vs rvs => ?_⟩
  split at h1
  case isTrue hl =>
    refine ⟨F1, ds, R1.fh, by rw [List.append_nil]; exact rvs, hl, ?_⟩
    cases hf : fn ds with
    | ok d =>
      rw [hf] at h1
      exact fun F2 H2 v g rv => h1 F2 H2 (R1.gr g) g.est v rv
    | exc xx =>
      rw [hf] at h1
      exact fun F2 H2 cls od g x => h1 F2 H2 cls od (R1.gr g) g.mono x
    | bad => rw [hf] at h1; exact h1.elim
  · exact h1.elim
theorem Rel.grS {K : PySem.W.Frag} {F F' H H' : Hp} {σ : St} {s : DS} {sr : Src} (R : Rel K Φ F σ H s) (hs : Φ.hs = true) (g : GrS Φ.sa Φ.sb F H F' H') (sx : SrcAt H' Φ.sa Φ.sb sr) : Rel K Φ F' σ H' { s with src := sr } ∧ ESt Φ σ s F H { s with src := sr } F' H' := by
  refine ⟨⟨R.f0.trans g.mono, g.fh, fun a o e => ?_, fun a o hn e => g.keep a o (hn hs).1 (hn hs).2 (R.keep a o hn e), fun _ => sx, R.srcN, R.len, fun i dv e => ?_, R.apart⟩, g.mono, fun a o hn e => g.keep a o (hn hs).1 (hn hs).2 e, fun a o e => (g.born a o e).elim .inl fun z => .inr (.inl z), fun _ q => q⟩
  · rcases g.born a o e with q | q
    · exact R.new a o q
    · exact .inr (R.h0 q)
  · obtain ⟨v, e1, h1⟩ := R.env i dv e
    refine ⟨v, e1, ?_⟩
    cases dv with
    | im d => exact Rep.mono g.mono _ _ h1
    | own d =>
      obtain ⟨a, o, q, h0, hf, hh, hc⟩ := h1
      subst q
      have hn := R.notOwn ⟨i, d, e, e1⟩ hs
      refine ⟨a, o, rfl, h0, ?_, g.keep a o hn.1 hn.2 hh, hc.mono g.mono⟩
      cases z : F' a with
      | none => rfl
      | some u => rcases g.born a u z with y | y
                  · rw [hf] at y; cases y
                  · rw [hh] at y; cases y
    | src => exact h1
    | me => exact h1
/-- the source's slot as the first argument -/
theorem pa_src {i : Nat} {x : Str} {p : Pos} (hs : starEach (.Name x p :: es) X.env = (false, eval (.Name x p) X.env) :: starEach es X.env) (hN : X.N[i]? = some x) (hv : Vis X.env.scope x) (hd : (x == ("__debug__" : Str)) = false) (hcd : (x == ("__classdict__" : Str)) = false) (hr : DA X Φ W es g) :
    PA X (.Name x p :: es) (fun σ H Q => ∃ F s, Rel X.K Φ F σ H s ∧ s.env[i]? = some (some .src) ∧ Hold X.K X.mg Φ W F σ H s (g s) fun F' H' ds _ => ∀ vs, Reps X.K Φ.cc F' ds vs → Q (.ref Φ.sa :: vs) H') :=
  PA.imp (pa_cons (pe_var hN hv hd hcd) hr hs) fun σ H Q ⟨F, s, R, e, h⟩ => by
    obtain ⟨v, e1, h1, rfl⟩ := R.env i _ e
    exact ⟨_, e1, F, s, R, h.imp fun F' H' ds s' R' e' q vs r => q vs r⟩
/-- f(h, ..), h the source -/
theorem de_callS {i : Nat} {x y : Str} {fn : SF} {p q : Pos} (G : GoodS X.prog X.w X.K X.mg X.base Φ.cc k x fn n) (hr : Room k X.A) (tk : Takes X W) (hg : Gl X x) (hdb : (x == ("__debug__" : Str)) = false)
    (hN : X.N[i]? = some y) (hv : Vis X.env.scope y) (hd : (y == ("__debug__" : Str)) = false) (hcd : (y == ("__classdict__" : Str)) = false)
    (he : starEach (.Name y q :: es) X.env = (false, eval (.Name y q) X.env) :: starEach es X.env) (hpl : (backTo pos (starEach es X.env)).any (·.1) = false) (ha : DA X Φ W es g) : DE X Φ W (.Call (.Name x p) (.Name y q :: es) [] pos) (callS i fn n g) := by
  obtain ⟨fa, fd, ps, hm, F, hk, hb⟩ := G.ex
  refine PE.imp (pe_callSD (E := WE W) F hr hg hm hk hb .nil (fun σ => passAt tk σ) (pa_src he hN hv hd hcd ha) hdb he hpl) fun σ H Q ⟨F, s, R, h⟩ => ⟨F, s, R, ?_⟩
  unfold callS at h
  cases e : s.env[i]? with
  | none => rw [e] at h; exact h.elim
  | some o => cases o with
    | none => rw [e] at h; exact h.elim
    | some dv => cases dv with
      | im d => rw [e] at h; exact h.elim
      | own d => rw [e] at h; exact h.elim
      | me => rw [e] at h; exact h.elim
      | src =>
        rw [e] at h
        have hs : Φ.hs = true := let ⟨v, e1, h1, _⟩ := R.env i _ e; h1
        refine ⟨rfl, (Hold.bind h).imp fun F1 H1 ds s1 R1 e1 h1 vs rvs => ?_⟩
        split at h1
        case isTrue hl =>
          have sf := R1.srcF hs
          refine ⟨F1, ds, Φ.sa, Φ.sb, s1.src, vs, by rw [List.append_nil], R1.fh, sf.1, sf.2, R1.srcH hs, rvs, hl, ?_⟩
          cases hf : fn ds s1.src with
          | ok d sr =>
            rw [hf] at h1
            intro F2 H2 v g sx rv
            obtain ⟨R2, e2⟩ := R1.grS hs g sx
            exact h1 F2 H2 R2 e2 v rv
          | exc xx sr =>
            rw [hf] at h1
            intro F2 H2 cls od g sx x
            obtain ⟨R2, e2⟩ := R1.grS hs g sx
            exact h1 F2 H2 cls od R2 g.mono x
          | bad => rw [hf] at h1; exact h1.elim
        · exact h1.elim
end
end Cut
namespace Cut
open PySem PySem.Spec L2
open PyProof.Rows hiding St

/-! ### what is walked -/
structure ItD (K : PySem.W.Frag) (cc : Addr) (F1 : Hp) (J : It) (items : List D) : Prop where
  go : ∀ i F H, i < items.length → Same F1 F → Same F H → J.go i H
  stop : ∀ i F H, i = items.length → Same F1 F → Same F H → J.stop i H
  yld : ∀ i F H x H', i < items.length → Same F1 F → Same F H → J.yld i H x H' → ∃ d F', items[i]? = some d ∧ Gr F H F' H' ∧ Rep K cc F' d x
def tI (K : PySem.W.Frag) (mg : Str → Option Value) (Φ : Fx) (W : WX) (f : DS → Rs (List D)) : TI := fun σ H R => ∃ F s, Rel K Φ F σ H s ∧ Hold K mg Φ W F σ H s (f s) fun F' H' items _ => ∀ J, ItD K Φ.cc F' J items → R J H'
abbrev DI (X : Cx) (Φ : Fx) (W : WX) (tg it : Expr) (f : DS → Rs (List D)) : Prop := PI X tg it (tI X.K X.mg Φ W f)

/-- targets: where the slots vs are set -/
def tG (K : PySem.W.Frag) (Φ : Fx) (vs : List Nat) (t : D → DS → Option DS) : TG := fun v σ H Q => ∃ F s d s', Rel K Φ F σ H s ∧ Rep K Φ.cc F d v ∧ t d s = some s' ∧ ∀ σ', σ'.length = σ.length → (∀ j, j ∉ vs → σ'[j]? = σ[j]?) → (∀ a, OwnAt σ' s' a → OwnAt σ s a) → Rel K Φ F σ' H s' → Q σ' H
abbrev DG (X : Cx) (Φ : Fx) (tg : Expr) (vs : List Nat) (t : D → DS → Option DS) : Prop := PG X tg (tG X.K Φ vs t)

section
variable {K : PySem.W.Frag} {Φ : Fx} {F F' H H' : Hp} {σ : St} {s s' : DS}
theorem Rel.set (R : Rel K Φ F σ H s) {i : Nat} (hi : i < s.env.length) {d : D} {v : V} (r : Rep K Φ.cc F d v) : Rel K Φ F (σ.set i (some v)) H { s with env := s.env.set i (some (.im d)) } := by
  have hσ : i < σ.length := by rw [R.len]; exact hi
  have envc : ∀ (j : Nat) dv, (s.env.set i (some (.im d)))[j]? = some (some dv) → (j = i ∧ dv = .im d) ∨ (j ≠ i ∧ s.env[j]? = some (some dv)) := fun j dv q => by
    by_cases hj : i = j
    · subst hj
      rw [List.getElem?_set_self hi] at q
      cases q
      exact .inl ⟨rfl, rfl⟩
    · rw [List.getElem?_set_ne hj] at q
      exact .inr ⟨fun z => hj z.symm, q⟩
  refine ⟨R.f0, R.fh, R.new, R.keep, R.srcH, R.srcN, by simpa using R.len, fun j dv q => ?_, fun j k d1 d2 b ne q1 q2 q3 q4 => ?_⟩
  · rcases envc j dv q with ⟨rfl, rfl⟩ | ⟨hj, q⟩
    · exact ⟨v, List.getElem?_set_self hσ, r⟩
    · obtain ⟨u, e2, h2⟩ := R.env j dv q
      exact ⟨u, by rw [List.getElem?_set_ne (Ne.symm hj)]; exact e2, h2⟩
  · rcases envc j _ q1 with ⟨_, z⟩ | ⟨hj, q1⟩
    · cases z
    · rcases envc k _ q2 with ⟨_, z⟩ | ⟨hk, q2⟩
      · cases z
      · rw [List.getElem?_set_ne (Ne.symm hj)] at q3
        rw [List.getElem?_set_ne (Ne.symm hk)] at q4
        exact R.apart j k d1 d2 b ne q1 q2 q3 q4
/-- a new own cell -/
theorem Rel.setOwn (R : Rel K Φ F σ H s) {i : Nat} (hi : i < s.env.length) {d : D} {p : Addr} {o : HO} (np : H p = none) (c : CellO K Φ.cc F o d) : Rel K Φ F (σ.set i (some (.ref p))) (upd H p o) { s with env := s.env.set i (some (.own d)) } := by
  have hσ : i < σ.length := by rw [R.len]; exact hi
  have h0 := R.h0 np
  have nf : F p = none := R.fh.free np
  have ne : ∀ {b o}, H b = some o → b ≠ p := fun e => ne_of_none e np
  have envc : ∀ (j : Nat) dv, (s.env.set i (some (.own d)))[j]? = some (some dv) → (j = i ∧ dv = .own d) ∨ (j ≠ i ∧ s.env[j]? = some (some dv)) := fun j dv q => by
    by_cases hj : i = j
    · subst hj
      rw [List.getElem?_set_self hi] at q
      cases q
      exact .inl ⟨rfl, rfl⟩
    · rw [List.getElem?_set_ne hj] at q
      exact .inr ⟨fun z => hj z.symm, q⟩
  have other : ∀ {j : Nat} {d1 : D} {b : Addr}, s.env[j]? = some (some (.own d1)) → σ[j]? = some (some (.ref b)) → b ≠ p := fun {j d1 b} q1 q2 => by
    obtain ⟨_, _, o', h⟩ := R.ownH ⟨j, d1, q1, q2⟩
    exact ne h
  refine ⟨R.f0, fun b u e => by rw [upd_ne (ne (R.fh _ _ e))]; exact R.fh _ _ e, R.new, fun b u hn e => by rw [upd_ne (ne (R.keep b u hn e))]; exact R.keep b u hn e, fun h => ?_, R.srcN, by simpa using R.len, fun j dv q => ?_, fun j k d1 d2 b hne q1 q2 q3 q4 => ?_⟩
  · obtain ⟨h1, h2, h3⟩ := R.srcH h
    exact ⟨h1, by rw [upd_ne (ne h2)]; exact h2, by rw [upd_ne (ne h3)]; exact h3⟩
  · rcases envc j dv q with ⟨rfl, rfl⟩ | ⟨hj, q⟩
    · exact ⟨.ref p, List.getElem?_set_self hσ, p, o, rfl, h0, nf, upd_same, c⟩
    · obtain ⟨u, e2, h2⟩ := R.env j dv q
      refine ⟨u, by rw [List.getElem?_set_ne (Ne.symm hj)]; exact e2, ?_⟩
      cases dv with
      | im d1 => exact h2
      | own d1 =>
        obtain ⟨b, o', rfl, g0, gf, gh, gc⟩ := h2
        exact ⟨b, o', rfl, g0, gf, by rw [upd_ne (ne gh)]; exact gh, gc⟩
      | src => exact h2
      | me => exact h2
  · rcases envc j _ q1 with ⟨ej, _⟩ | ⟨hj, q1'⟩
    · rcases envc k _ q2 with ⟨ek, _⟩ | ⟨hk, q2'⟩
      · exact hne (ej.trans ek.symm)
      · rw [ej, List.getElem?_set_self hσ] at q3
        cases q3
        rw [List.getElem?_set_ne (Ne.symm hk)] at q4
        exact other q2' q4 rfl
    · rw [List.getElem?_set_ne (Ne.symm hj)] at q3
      rcases envc k _ q2 with ⟨ek, _⟩ | ⟨hk, q2'⟩
      · rw [ek, List.getElem?_set_self hσ] at q4
        cases q4
        exact other q1' q3 rfl
      · rw [List.getElem?_set_ne (Ne.symm hk)] at q4
        exact R.apart j k d1 d2 b hne q1' q2' q3 q4
/-- an own cell is changed -/
theorem Rel.chg (R : Rel K Φ F σ H s) {i : Nat} {d d' : D} {p : Addr} {o : HO} (e : s.env[i]? = some (some (.own d))) (ep : σ[i]? = some (some (.ref p))) (c : CellO K Φ.cc F o d') : Rel K Φ F σ (upd H p o) { s with env := s.env.set i (some (.own d')) } := by
  have hi : i < s.env.length := (List.getElem?_eq_some_iff.mp e).1
  obtain ⟨nf, h0, o', hp⟩ := R.ownH ⟨i, d, e, ep⟩
  have nsrc := R.notOwn ⟨i, d, e, ep⟩
  have envc : ∀ (j : Nat) dv, (s.env.set i (some (.own d')))[j]? = some (some dv) → (j = i ∧ dv = .own d') ∨ (j ≠ i ∧ s.env[j]? = some (some dv)) := fun j dv q => by
    by_cases hj : i = j
    · subst hj
      rw [List.getElem?_set_self hi] at q
      cases q
      exact .inl ⟨rfl, rfl⟩
    · rw [List.getElem?_set_ne hj] at q
      exact .inr ⟨fun z => hj z.symm, q⟩
  refine ⟨R.f0, fun b u q => by rw [upd_ne (ne_of_none q nf)]; exact R.fh _ _ q, R.new, fun b u hn q => by rw [upd_ne (ne_of_none q h0)]; exact R.keep b u hn q, fun h => ?_, R.srcN, by simpa using R.len, fun j dv q => ?_, fun j k d1 d2 b hne q1 q2 q3 q4 => ?_⟩
  · obtain ⟨h1, h2, h3⟩ := R.srcH h
    exact ⟨h1, by rw [upd_ne (Ne.symm (nsrc h).1)]; exact h2, by rw [upd_ne (Ne.symm (nsrc h).2)]; exact h3⟩
  · rcases envc j dv q with ⟨rfl, rfl⟩ | ⟨hj, q⟩
    · exact ⟨.ref p, ep, p, o, rfl, h0, nf, upd_same, c⟩
    · obtain ⟨u, e2, h2⟩ := R.env j dv q
      refine ⟨u, e2, ?_⟩
      cases dv with
      | im d1 => exact h2
      | own d1 =>
        obtain ⟨b, o', rfl, g0, gf, gh, gc⟩ := h2
        have hb : b ≠ p := fun z => by subst z; exact R.apart j i d1 d b hj q e e2 ep
        exact ⟨b, o', rfl, g0, gf, by rw [upd_ne hb]; exact gh, gc⟩
      | src => exact h2
      | me => exact h2
  · have own1 : ∀ {j : Nat} {d1 : D}, (s.env.set i (some (.own d')))[j]? = some (some (.own d1)) → ∃ d2, s.env[j]? = some (some (.own d2)) := fun {j d1} q => by
      rcases envc j _ q with ⟨rfl, _⟩ | ⟨_, q⟩
      · exact ⟨d, e⟩
      · exact ⟨d1, q⟩
    obtain ⟨e1, q1⟩ := own1 q1
    obtain ⟨e2, q2⟩ := own1 q2
    exact R.apart j k e1 e2 b hne q1 q2 q3 q4
end

/-! ### statements -/
inductive Rst where
  | nx (s : DS) | rt (d : D) (s : DS) | bk (s : DS) | ct (s : DS) | exc (x : Xc) (s : DS) | bad
def HoldS (K : PySem.W.Frag) (mg : Str → Option Value) (Φ : Fx) (W : WX) (F : Hp) (r : Rst) (E : Ends) : Prop := match r with
  | .nx s' => ∀ F' σ' H', Same F F' → Rel K Φ F' σ' H' s' → E.nx σ' H'
  | .rt d s' => ∀ F' σ' H' v, Same F F' → Rel K Φ F' σ' H' s' → Rep K Φ.cc F' d v → E.rt v H'
  | .bk s' => ∀ F' σ' H', Same F F' → Rel K Φ F' σ' H' s' → E.bk σ' H'
  | .ct s' => ∀ F' σ' H', Same F F' → Rel K Φ F' σ' H' s' → E.ct σ' H'
  | .exc x s' => ∀ F' σ' H' cls od, Same F F' → Rel K Φ F' σ' H' s' → XRel mg K Φ.cc F' H' x cls od → W cls od σ' H'
  | .bad => False
theorem HoldS.mono {K : PySem.W.Frag} {mg : Str → Option Value} {Φ : Fx} {W : WX} {F F' : Hp} {r : Rst} {E : Ends} (sm : Same F F') (h : HoldS K mg Φ W F r E) : HoldS K mg Φ W F' r E := by
  cases r with
  | nx s' => exact fun F2 σ' H' q R => h F2 σ' H' (sm.trans q) R
  | rt d s' => exact fun F2 σ' H' v q R => h F2 σ' H' v (sm.trans q) R
  | bk s' => exact fun F2 σ' H' q R => h F2 σ' H' (sm.trans q) R
  | ct s' => exact fun F2 σ' H' q R => h F2 σ' H' (sm.trans q) R
  | exc x s' => exact fun F2 σ' H' c o q R => h F2 σ' H' c o (sm.trans q) R
  | bad => exact h
def tS (K : PySem.W.Frag) (mg : Str → Option Value) (Φ : Fx) (W : WX) (g : DS → Rst) : TS := fun E σ H => ∃ F s, Rel K Φ F σ H s ∧ HoldS K mg Φ W F (g s) E
abbrev DSt (X : Cx) (Φ : Fx) (W : WX) (st : Stmt) (g : DS → Rst) : Prop := PS X st (tS X.K X.mg Φ W g)
abbrev DSs (X : Cx) (Φ : Fx) (W : WX) (st : List Stmt) (g : DS → Rst) : Prop := PSs X st (tS X.K X.mg Φ W g)
theorem PS.imp {X : Cx} {e : Stmt} {t t' : TS} (h : PS X e t) (q : ∀ E σ H, t' E σ H → t E σ H) : PS X e t' := ⟨fun pins s σ H E I w => h.run pins s σ H E I (q E σ H w)⟩
theorem PSs.imp {X : Cx} {e : List Stmt} {t t' : TS} (h : PSs X e t) (q : ∀ E σ H, t' E σ H → t E σ H) : PSs X e t' := ⟨fun pins s σ H E I w => h.run pins s σ H E I (q E σ H w)⟩
theorem PG.imp {X : Cx} {e : Expr} {t t' : TG} (h : PG X e t) (q : ∀ v σ H Q, t' v σ H Q → t v σ H Q) : PG X e t' := ⟨fun pins s σ H v u Q I r w => h.run pins s σ H v u Q I r (q v σ H Q w)⟩

/-- an expression ahead of a statement's rest -/
def Rs.then {α : Type} (r : Rs α) (g : α → DS → Rst) : Rst := match r with
  | .ok a s => g a s
  | .exc x s => .exc x s
  | .bad => .bad
def seqS (g h : DS → Rst) : DS → Rst := fun s => match g s with
  | .nx s' => h s'
  | r => r
def doneS : DS → Rst := fun s => .nx s
section
variable {X : Cx} {Φ : Fx} {W : WX} {e : Expr} {es : List Expr} {st : Stmt} {sts : List Stmt} {f : DS → Rs D} {g h : DS → Rst} {pos : Pos} {k n : Nat}
theorem HoldS.then {K : PySem.W.Frag} {mg : Str → Option Value} {α : Type} {F : Hp} {σ : St} {H : Hp} {s : DS} {r : Rs α} {g : α → DS → Rst} {E : Ends} (h : HoldS K mg Φ W F (r.then g) E) :
    Hold K mg Φ W F σ H s r fun F1 H1 a s1 => HoldS K mg Φ W F1 (g a s1) E := by
  cases r with
  | ok a s' => exact fun F' H' R' e' => HoldS.mono e'.mono h
  | exc x s' => exact fun F' H' cls od R' sm x => h F' σ H' cls od sm R' x
  | bad => exact h
theorem ds_nil : DSs X Φ W [] doneS := PSs.imp pss_nil fun E σ H ⟨F, s, R, h⟩ => h F σ H (Same.refl _) R
theorem HoldS.seq {K : PySem.W.Frag} {mg : Str → Option Value} {F : Hp} {s : DS} {E : Ends} (q : HoldS K mg Φ W F (seqS g h s) E) : HoldS K mg Φ W F (g s) { E with nx := tS K mg Φ W h E } := by
  unfold seqS at q
  cases z : g s with
  | nx s' =>
    rw [z] at q
    exact fun F' σ' H' sm R => ⟨F', s', R, HoldS.mono sm q⟩
  | rt d s' => rw [z] at q; exact q
  | bk s' => rw [z] at q; exact q
  | ct s' => rw [z] at q; exact q
  | exc x s' => rw [z] at q; exact q
  | bad => rw [z] at q; exact q
theorem ds_cons (h1 : DSt X Φ W st g) (h2 : DSs X Φ W sts h) : DSs X Φ W (st :: sts) (seqS g h) :=
  PSs.imp (pss_cons h1 h2) fun E σ H ⟨F, s, R, q⟩ => ⟨F, s, R, q.seq⟩
theorem ds_one (h1 : DSt X Φ W st g) : DSs X Φ W [st] g := pss_one h1
theorem ds_pass : DSt X Φ W (.Pass pos) doneS := PS.imp ps_pass fun E σ H ⟨F, s, R, h⟩ => h F σ H (Same.refl _) R
def bkS : DS → Rst := fun s => .bk s
def ctS : DS → Rst := fun s => .ct s
theorem ds_break : DSt X Φ W (.Break pos) bkS := PS.imp ps_break fun E σ H ⟨F, s, R, h⟩ => h F σ H (Same.refl _) R
theorem ds_continue : DSt X Φ W (.Continue pos) ctS := PS.imp ps_continue fun E σ H ⟨F, s, R, h⟩ => h F σ H (Same.refl _) R
def retS (f : DS → Rs D) : DS → Rst := fun s => (f s).then fun d s => .rt d s
theorem ds_ret (he : DE X Φ W e f) : DSt X Φ W (.Return (some e) pos) (retS f) :=
  PS.imp (ps_ret he) fun E σ H ⟨F, s, R, h⟩ => ⟨F, s, R, (HoldS.then h).imp fun F1 H1 d s1 R1 e1 h1 v rv => h1 F1 σ H1 v (Same.refl _) R1 rv⟩
def retN : DS → Rst := fun s => .rt .non s
theorem ds_retN : DSt X Φ W (.Return none pos) retN := PS.imp ps_retN fun E σ H ⟨F, s, R, h⟩ => h F σ H .non (Same.refl _) R rep_non
def exprS (f : DS → Rs D) : DS → Rst := fun s => (f s).then fun _ s => .nx s
theorem ds_expr (he : DE X Φ W e f) (hs : swapsWith e none pos.line X.env = pure false) : DSt X Φ W (.Expr e pos) (exprS f) :=
  PS.imp (ps_expr he hs) fun E σ H ⟨F, s, R, h⟩ => ⟨F, s, R, (HoldS.then h).imp fun F1 H1 d s1 R1 e1 h1 v rv => h1 F1 σ H1 (Same.refl _) R1⟩
def ifS (c : DS → Rs Bool) (g h : DS → Rst) : DS → Rst := fun s => (c s).then fun b s => if b = true then g s else h s
theorem ds_if {c : Expr} {a b : List Stmt} {t : DS → Rs Bool} (hc : DT X Φ W c t) (ha : DSs X Φ W a g) (hb : DSs X Φ W b h) : DSt X Φ W (.If c a b pos) (ifS t g h) :=
  PS.imp (ps_if hc ha hb) fun E σ H ⟨F, s, R, q⟩ => ⟨F, s, R, (HoldS.then q).imp fun F1 H1 b s1 R1 e1 h1 => by
    cases b with
    | true => rw [if_pos rfl] at h1 ⊢; exact ⟨F1, s1, R1, h1⟩
    | false => rw [if_neg Bool.false_ne_true] at h1 ⊢; exact ⟨F1, s1, R1, h1⟩⟩
def asgS (i : Nat) (f : DS → Rs D) : DS → Rst := fun s => (f s).then fun d s => if i < s.env.length then .nx { s with env := s.env.set i (some (.im d)) } else .bad
theorem ds_asg {i : Nat} {x : Str} {pos' : Pos} (hN : X.N.Nodup) (hi : X.N[i]? = some x) (hx : Loc X.env.scope x) (hs : swapsWith e (some (.Name x pos')) pos.line X.env = pure false) (hf : X.fn x = true ∨ X.env.scope.names.lookup x = some .local) (he : DE X Φ W e f) :
    DSt X Φ W (.Assign [.Name x pos'] e pos) (asgS i f) :=
  PS.imp (ps_set hN hi hx he hs hf) fun E σ H ⟨F, s, R, q⟩ => ⟨F, s, R, (HoldS.then q).imp fun F1 H1 d s1 R1 e1 h1 v rv => by
    split at h1
    case isTrue hl => exact h1 F1 _ H1 (Same.refl _) (R1.set hl rv)
    · exact h1.elim⟩
def asgN (i : Nat) (f : DS → Rs D) : DS → Rst := fun s => (f s).then fun d s => if i < s.env.length then .nx { s with env := s.env.set i (some (.own d)) } else .bad
theorem ds_own {i : Nat} {x : Str} {pos' : Pos} (hN : X.N.Nodup) (hi : X.N[i]? = some x) (hx : Loc X.env.scope x) (hs : swapsWith e (some (.Name x pos')) pos.line X.env = pure false) (hf : X.fn x = true ∨ X.env.scope.names.lookup x = some .local) (he : DF X Φ W e f) :
    DSt X Φ W (.Assign [.Name x pos'] e pos) (asgN i f) :=
  PS.imp (ps_set hN hi hx he hs hf) fun E σ H ⟨F, s, R, q⟩ => ⟨F, s, R, (HoldS.then q).imp fun F1 H1 d s1 R1 e1 h1 p o np c => by
    split at h1
    case isTrue hl => exact h1 F1 _ _ (Same.refl _) (R1.setOwn hl np c)
    · exact h1.elim⟩

/-! ### while, for -/
def whileL (c : DS → Rs Bool) (b : DS → Rst) : Nat → DS → Rst
  | 0, _ => .bad
  | n + 1, s => (c s).then fun k s => if k = true then (match b s with
      | .nx s => whileL c b n s
      | .ct s => whileL c b n s
      | .bk s => .nx s
      | r => r) else .nx s
theorem tt_mono {K : PySem.W.Frag} {mg : Str → Option Value} {c : DS → Rs Bool} {σ : St} {H : Hp} {F : Hp} {s : DS} {P : Hp → Hp → Bool → DS → Prop} {Q : Bool → Hp → Prop} (R : Rel K Φ F σ H s) (h : Hold K mg Φ W F σ H s (c s) P) (q : ∀ F' H' b s', Rel K Φ F' σ H' s' → P F' H' b s' → Q b H') :
    tTs K mg Φ W c σ H Q := ⟨F, s, R, h.imp fun F' H' b s' R' _ p => q F' H' b s' R' p⟩
theorem ds_while {c : Expr} {body : List Stmt} {t : DS → Rs Bool} (fuel : Nat) (hp : PassesOwn (model X.prog X.w) X.A X.env X.xe) (hc : DT X Φ W c t) (hb : DSs X Φ W body g) : DSt X Φ W (.While c body [] pos) (whileL t g fuel) :=
  PS.imp (ps_while hp hc hb) fun E σ H ⟨F, s, R, q⟩ => by
    refine ⟨fun m σ H => ∃ F s, Rel X.K Φ F σ H s ∧ HoldS X.K X.mg Φ W F (whileL t g m s) E, ⟨fuel, F, s, R, q⟩, ?_⟩
    rintro m σ1 H1 ⟨F1, s1, R1, q1⟩
    cases m with
    | zero => exact q1.elim
    | succ m =>
      unfold whileL at q1
      refine ⟨F1, s1, R1, (HoldS.then q1).imp fun F2 H2 b s2 R2 e2 h2 => ?_⟩
      cases b with
      | false => rw [if_neg Bool.false_ne_true] at h2 ⊢; exact h2 F2 σ1 H2 (Same.refl _) R2
      | true =>
        rw [if_pos rfl] at h2 ⊢
        refine ⟨fun σ' H' => ∃ F s, Rel X.K Φ F σ' H' s ∧ HoldS X.K X.mg Φ W F (whileL t g m s) E, fun σ' H' h => ⟨m, Nat.lt_succ_self _, h⟩, F2, s2, R2, ?_⟩
        cases z : g s2 with
        | nx s3 => rw [z] at h2; exact fun F3 σ3 H3 sm R3 => ⟨F3, s3, R3, HoldS.mono sm h2⟩
        | ct s3 => rw [z] at h2; exact fun F3 σ3 H3 sm R3 => ⟨F3, s3, R3, HoldS.mono sm h2⟩
        | bk s3 => rw [z] at h2; exact h2
        | rt d s3 => rw [z] at h2; exact h2
        | exc x s3 => rw [z] at h2; exact h2
        | bad => rw [z] at h2; exact h2
def forL (t : D → DS → Option DS) (b : DS → Rst) : List D → DS → Rst
  | [], s => .nx s
  | d :: r, s => match t d s with
    | none => .bad
    | some s => match b s with
      | .nx s => forL t b r s
      | .ct s => forL t b r s
      | .bk s => .nx s
      | r => r
def forS (f : DS → Rs (List D)) (t : D → DS → Option DS) (b : DS → Rst) : DS → Rst := fun s => (f s).then fun items s => forL t b items s
theorem ds_for {tg it : Expr} {body : List Stmt} {fi : DS → Rs (List D)} {vs : List Nat} {t : D → DS → Option DS} (hp : PassesOwn (model X.prog X.w) X.A X.env X.xe) (hc : X.calm = true) (hi : DI X Φ W tg it fi) (hg : DG X Φ tg vs t) (hb : DSs X Φ W body g)
    (hs : ∀ x, foldedSetIterable it X.env x = pure x) : DSt X Φ W (.For tg it body [] pos) (forS fi t g) :=
  PS.imp (ps_for hp hc hi hg hb hs) fun E σ H ⟨F, s, R, q⟩ => ⟨F, s, R, (HoldS.then q).imp fun F1 H1 items s1 R1 e1 h1 J ij => by
    refine ⟨fun i m σ H => m = items.length - i ∧ i ≤ items.length ∧ ∃ F s, Same F1 F ∧ Rel X.K Φ F σ H s ∧ HoldS X.K X.mg Φ W F (forL t g (items.drop i) s) E, ⟨_, rfl, Nat.zero_le _, F1, s1, Same.refl _, R1, h1⟩, ?_⟩
    rintro i m σ2 H2 ⟨rfl, hi, F2, s2, sm2, R2, h2⟩
    by_cases hlt : i < items.length
    · have ed : items.drop i = items[i] :: items.drop (i + 1) := List.drop_eq_getElem_cons hlt
      rw [ed] at h2
      refine .inr ⟨ij.go i F2 H2 hlt sm2 R2.fh, fun σ' H' => i + 1 ≤ items.length ∧ ∃ F s, Same F1 F ∧ Rel X.K Φ F σ' H' s ∧ HoldS X.K X.mg Φ W F (forL t g (items.drop (i + 1)) s) E, fun σ' H' h => ⟨items.length - (i + 1), by omega, rfl, h⟩, fun x H' y => ?_⟩
      obtain ⟨d, F3, ed3, g3, r3⟩ := ij.yld i F2 H2 x H' hlt sm2 R2.fh y
      rw [List.getElem?_eq_getElem hlt] at ed3
      cases ed3
      unfold forL at h2
      cases z : t items[i] s2 with
      | none => rw [z] at h2; exact h2.elim
      | some s3 =>
        rw [z] at h2
        refine ⟨F3, s2, _, s3, R2.gr g3, r3, z, fun σ4 hl4 hj4 ho4 R4 => ⟨F3, s3, R4, ?_⟩⟩
        have sm3 := sm2.trans g3.mono
        have h2 := HoldS.mono g3.mono h2
        dsimp only at h2
        cases y : g s3 with
        | nx s5 => rw [y] at h2; exact fun F5 σ5 H5 sm R5 => ⟨hlt, F5, s5, sm3.trans sm, R5, HoldS.mono sm h2⟩
        | ct s5 => rw [y] at h2; exact fun F5 σ5 H5 sm R5 => ⟨hlt, F5, s5, sm3.trans sm, R5, HoldS.mono sm h2⟩
        | bk s5 => rw [y] at h2; exact h2
        | rt d s5 => rw [y] at h2; exact h2
        | exc x s5 => rw [y] at h2; exact h2
        | bad => rw [y] at h2; exact h2
    · have ei : i = items.length := by omega
      subst ei
      rw [List.drop_length] at h2
      exact .inl ⟨ij.stop _ F2 H2 rfl sm2 R2.fh, h2 F2 σ2 H2 (Same.refl _) R2⟩⟩
end
end Cut
namespace Cut
open PySem PySem.Spec L2
open PyProof.Rows hiding St

/-! ### targets -/
theorem own_set {σ : St} {s : DS} {i : Nat} (hi : i < s.env.length) {d : D} {v : Option V} {a : Addr} (h : OwnAt (σ.set i v) { s with env := s.env.set i (some (.im d)) } a) : OwnAt σ s a := by
  obtain ⟨j, d1, q1, q2⟩ := h
  by_cases hj : i = j
  · subst hj
    have q1 : (s.env.set i (some (.im d)))[i]? = _ := q1
    rw [List.getElem?_set_self hi] at q1
    cases q1
  · have q1 : (s.env.set i (some (.im d)))[j]? = _ := q1
    rw [List.getElem?_set_ne hj] at q1 q2
    exact ⟨j, d1, q1, q2⟩
def tgName (i : Nat) : D → DS → Option DS := fun d s => if i < s.env.length then some { s with env := s.env.set i (some (.im d)) } else none
section
variable {X : Cx} {Φ : Fx} {W : WX} {pos : Pos}
theorem dg_name {i : Nat} {x : Str} (hN : X.N.Nodup) (hi : X.N[i]? = some x) (hx : Loc X.env.scope x) (hf : X.fn x = true ∨ X.env.scope.names.lookup x = some .local) : DG X Φ (.Name x pos) [i] (tgName i) :=
  PG.imp (pg_name hN hi hx hf) fun v σ H Q ⟨F, s, d, s', R, r, e, h⟩ => by
    unfold tgName at e
    split at e
    case isTrue hl =>
      cases e
      exact h _ (by simp) (fun j hj => List.getElem?_set_ne (fun z => hj (by simp [z]))) (fun a => own_set hl) (R.set hl r)
    · cases e
/-- several names, one tuple -/
def tgNames : List Nat → List D → DS → Option DS
  | [], [], s => some s
  | i :: is, d :: ds, s => (tgName i d s).bind fun s => tgNames is ds s
  | _, _, _ => none
def tgTup (is : List Nat) : D → DS → Option DS := fun d s => match d with
  | .tup ds => tgNames is ds s
  | _ => none
def tGs (K : PySem.W.Frag) (Φ : Fx) (vs : List Nat) (t : List D → DS → Option DS) : TGs := fun us σ H Q => ∃ F s ds s', Rel K Φ F σ H s ∧ Reps K Φ.cc F ds us ∧ t ds s = some s' ∧ ∀ σ', σ'.length = σ.length → (∀ j, j ∉ vs → σ'[j]? = σ[j]?) → (∀ a, OwnAt σ' s' a → OwnAt σ s a) → Rel K Φ F σ' H s' → Q σ' H
theorem PGs.imp {X : Cx} {es : List Expr} {t t' : TGs} (h : PGs X es t) (q : ∀ v σ H Q, t' v σ H Q → t v σ H Q) : PGs X es t' := ⟨fun pins s σ H v u Q I r w => h.run pins s σ H v u Q I r (q v σ H Q w)⟩
theorem dgs_nil : PGs X [] (tGs X.K Φ [] (tgNames [])) := PGs.imp pgs_nil fun us σ H Q ⟨F, s, ds, s', R, r, e, h⟩ => by
  cases ds with
  | nil => rw [reps_nil] at r; cases e; exact ⟨r, h σ rfl (fun _ _ => rfl) (fun _ q => q) R⟩
  | cons _ _ => cases e
theorem dgs_cons {i : Nat} {is : List Nat} {x : Str} {p : Pos} {es : List Expr} (hs : (assignEach (.Name x p :: es) X.env).map (·.2) = assign (.Name x p) X.env :: (assignEach es X.env).map (·.2)) (h1 : DG X Φ (.Name x p) [i] (tgName i)) (h2 : PGs X es (tGs X.K Φ is (tgNames is))) :
    PGs X (.Name x p :: es) (tGs X.K Φ (i :: is) (tgNames (i :: is))) :=
  PGs.imp (pgs_cons h1 h2 hs) fun us σ H Q ⟨F, s, ds, s', R, r, e, h⟩ => by
    cases ds with
    | nil => cases e
    | cons d ds =>
      obtain ⟨v, r', rfl, hd, hr⟩ := reps_cons.mp r
      unfold tgNames at e
      cases z : tgName i d s with
      | none => rw [z] at e; cases e
      | some s1 =>
        rw [z] at e
        exact ⟨v, r', rfl, F, s, d, s1, R, hd, z, fun σ1 hl hj ho R1 => ⟨F, s1, ds, s', R1, hr, e, fun σ2 hl2 hj2 ho2 R2 => h σ2 (hl2.trans hl) (fun j hn => (hj2 j fun q => hn (List.mem_cons_of_mem _ q)).trans (hj j fun q => hn (by simp at q; simp [q]))) (fun a q => ho a (ho2 a q)) R2⟩⟩
theorem dg_tup {is : List Nat} {es : List Expr} {k n : Nat} (hc : X.calm = true) (h : PGs X es (tGs X.K Φ is (tgNames is))) (hl : is.length = n) (hn : (assignEach es X.env).length = n) (hst : (assignEach es X.env).findIdx? (·.1) = none) : DG X Φ (.Tuple es k pos) is (tgTup is) :=
  PG.imp (pg_tup hc h hn hst) fun v σ H Q ⟨F, s, d, s', R, r, e, h⟩ => by
    cases d with
    | tup ds =>
      unfold Rep at r
      obtain ⟨a, o1, us, rfl, h1, t1, h2⟩ := r
      have hlen : ∀ (is : List Nat) (ds : List D) (s s' : DS), tgNames is ds s = some s' → ds.length = is.length := by
        intro is
        induction is with
        | nil => intro ds s s' e; cases ds with
          | nil => rfl
          | cons _ _ => cases e
        | cons i is ih => intro ds s s' e; cases ds with
          | nil => cases e
          | cons d ds =>
            unfold tgNames at e
            cases z : tgName i d s with
            | none => rw [z] at e; cases e
            | some s1 => rw [z] at e; simp [ih ds s1 s' e]
      exact ⟨a, us, rfl, t1.sq (R.fh _ _ h1), by rw [h2.len, hlen is ds s s' e, hl], F, s, ds, s', R, h2, e, h⟩
    | _ => cases e
end

/-! ### the block of a comprehension -/
def wipeD (s : DS) (own : List Nat) : DS := { s with env := own.foldr (fun v l => l.set v none) s.env }
theorem foldr_wipe (σ : St) : ∀ own : List Nat, wipe σ own = own.foldr (fun v l => l.set v none) σ
  | [] => rfl
  | v :: vs => by unfold wipe; rw [foldr_wipe σ vs]; rfl
theorem wipeL_len {α : Type} (l : List (Option α)) : ∀ own : List Nat, (own.foldr (fun v l => l.set v none) l).length = l.length
  | [] => rfl
  | v :: vs => by simp [wipeL_len l vs]
theorem wipeL_in {α : Type} (l : List (Option α)) : ∀ (own : List Nat) (i : Nat), i ∈ own → i < l.length → (own.foldr (fun v l => l.set v none) l)[i]? = some none
  | v :: vs, i, h, hl => by
    rw [List.foldr_cons]
    by_cases hv : v = i
    · subst hv; rw [List.getElem?_set_self (by rw [wipeL_len]; exact hl)]
    · rw [List.getElem?_set_ne hv]
      exact wipeL_in l vs i (by simp at h; rcases h with h | h; exact absurd h.symm hv; exact h) hl
theorem wipeL_out {α : Type} (l : List (Option α)) : ∀ (own : List Nat) (i : Nat), i ∉ own → (own.foldr (fun v l => l.set v none) l)[i]? = l[i]?
  | [], _, _ => rfl
  | v :: vs, i, h => by
    rw [List.foldr_cons, List.getElem?_set_ne (fun z => h (by simp [z]))]
    exact wipeL_out l vs i fun z => h (List.mem_cons_of_mem _ z)
/-- slots taken from an earlier list -/
def restL (own : List Nat) (old new : List (Option DV)) : List (Option DV) := (List.range new.length).map fun i => if i ∈ own then (old[i]?).getD none else (new[i]?).getD none
def restD (own : List Nat) (old new : DS) : DS := { new with env := restL own old.env new.env }
/-- the own slots hold nothing that is own -/
def calmD (own : List Nat) (s : DS) : Bool := own.all fun i => match s.env[i]? with
  | some none => true
  | some (some (.im _)) => true
  | _ => false
theorem restL_get {own : List Nat} {old new : List (Option DV)} {i : Nat} (hi : i < new.length) : (restL own old new)[i]? = some (if i ∈ own then (old[i]?).getD none else (new[i]?).getD none) := by
  unfold restL
  rw [List.getElem?_map, List.getElem?_range hi]; rfl
section
variable {K : PySem.W.Frag} {Φ : Fx} {F F' H H' : Hp} {σ σ' : St} {s s' : DS} {own : List Nat}
theorem calm_at (h : calmD own s = true) {i : Nat} (hi : i ∈ own) : i < s.env.length ∧ ∀ dv, s.env[i]? = some (some dv) → ∃ d, dv = .im d := by
  unfold calmD at h
  rw [List.all_eq_true] at h
  have q := h i hi
  cases e : s.env[i]? with
  | none => rw [e] at q; cases q
  | some o =>
    refine ⟨(List.getElem?_eq_some_iff.mp e).1, fun dv z => ?_⟩
    cases z
    rw [e] at q
    cases dv with
    | im d => exact ⟨d, rfl⟩
    | own d => cases q
    | src => cases q
    | me => cases q
theorem Rel.wipe (R : Rel K Φ F σ H s) (own : List Nat) : Rel K Φ F (L2.wipe σ own) H (wipeD s own) := by
  have he : ∀ (j : Nat) dv, (wipeD s own).env[j]? = some (some dv) → j ∉ own ∧ s.env[j]? = some (some dv) := fun j dv q => by
    by_cases hj : j ∈ own
    · have hl : j < s.env.length := by
        have := (List.getElem?_eq_some_iff.mp q).1
        unfold wipeD at this
        rwa [wipeL_len] at this
      unfold wipeD at q
      rw [wipeL_in _ own j hj hl] at q
      cases q
    · unfold wipeD at q
      rw [wipeL_out _ own j hj] at q
      exact ⟨hj, q⟩
  have hs : ∀ j, j ∉ own → (L2.wipe σ own)[j]? = σ[j]? := fun j hj => by rw [foldr_wipe, wipeL_out _ own j hj]
  refine ⟨R.f0, R.fh, R.new, R.keep, R.srcH, R.srcN, ?_, fun j dv q => ?_, fun j k d1 d2 a ne q1 q2 q3 q4 => ?_⟩
  · rw [wipe_length]; unfold wipeD; rw [wipeL_len]; exact R.len
  · obtain ⟨hj, q⟩ := he j dv q
    obtain ⟨v, e1, h1⟩ := R.env j dv q
    exact ⟨v, by rw [hs j hj]; exact e1, h1⟩
  · obtain ⟨hj, q1⟩ := he j _ q1
    obtain ⟨hk, q2⟩ := he k _ q2
    rw [hs j hj] at q3
    rw [hs k hk] at q4
    exact R.apart j k d1 d2 a ne q1 q2 q3 q4
theorem wipe_own (h : calmD own s = true) (a : Addr) : OwnAt (L2.wipe σ own) (wipeD s own) a → OwnAt σ s a := fun ⟨i, d, q1, q2⟩ => by
  by_cases hi : i ∈ own
  · have hl := (calm_at h hi).1
    unfold wipeD at q1
    rw [wipeL_in _ own i hi hl] at q1
    cases q1
  · unfold wipeD at q1
    rw [wipeL_out _ own i hi] at q1
    rw [foldr_wipe, wipeL_out _ own i hi] at q2
    exact ⟨i, d, q1, q2⟩
/-- back in the def's own frame: the slots as they were -/
theorem Rel.back (R0 : Rel K Φ F σ H s) (hc : calmD own s = true) (R : Rel K Φ F' σ' H' s') (sm : Same F F') (hl : s'.env.length = s.env.length) (hσ : ∀ j, j ∉ own → σ'[j]? = σ[j]?) (hlen : σ'.length = σ.length) (hown : ∀ a, OwnAt σ' s' a → OwnAt σ s a) :
    Rel K Φ F' σ H' (restD own s s') ∧ ∀ a, OwnAt σ (restD own s s') a → OwnAt σ' s' a := by
  have he : ∀ (j : Nat) dv, (restD own s s').env[j]? = some (some dv) → (j ∈ own ∧ s.env[j]? = some (some dv)) ∨ (j ∉ own ∧ s'.env[j]? = some (some dv)) := fun j dv q => by
    unfold restD at q
    have hj : j < s'.env.length := by
      have := (List.getElem?_eq_some_iff.mp q).1
      simpa [restL] using this
    rw [restL_get hj] at q
    split at q
    case isTrue hm =>
      refine .inl ⟨hm, ?_⟩
      cases z : s.env[j]? with
      | none => rw [z] at q; cases q
      | some o => rw [z] at q; simpa using q
    case isFalse hm =>
      refine .inr ⟨hm, ?_⟩
      cases z : s'.env[j]? with
      | none => rw [z] at q; cases q
      | some o => rw [z] at q; simpa using q
  have ho : ∀ (j : Nat) d, (restD own s s').env[j]? = some (some (.own d)) → j ∉ own ∧ s'.env[j]? = some (some (.own d)) := fun j d q => by
    rcases he j _ q with ⟨hm, q⟩ | h
    · obtain ⟨d', z⟩ := (calm_at hc hm).2 _ q
      cases z
    · exact h
  refine ⟨⟨R.f0, R.fh, R.new, R.keep, R.srcH, R.srcN, ?_, fun j dv q => ?_, fun j k d1 d2 a ne q1 q2 q3 q4 => ?_⟩, fun a ⟨j, d, q1, q2⟩ => ?_⟩
  · rw [R0.len, ← hl]; unfold restD restL; simp
  · rcases he j dv q with ⟨hm, q⟩ | ⟨hm, q⟩
    · obtain ⟨d, rfl⟩ := (calm_at hc hm).2 _ q
      obtain ⟨v, e1, h1⟩ := R0.env j _ q
      exact ⟨v, e1, Rep.mono sm _ _ h1⟩
    · obtain ⟨v, e1, h1⟩ := R.env j dv q
      exact ⟨v, by rw [← hσ j hm]; exact e1, h1⟩
  · obtain ⟨hj, q1⟩ := ho j d1 q1
    obtain ⟨hk, q2⟩ := ho k d2 q2
    exact R.apart j k d1 d2 a ne q1 q2 (by rw [hσ j hj]; exact q3) (by rw [hσ k hk]; exact q4)
  · obtain ⟨hj, q1⟩ := ho j d q1
    exact ⟨j, d, q1, by rw [hσ j hj]; exact q2⟩
/-- an object that nobody tells of may change, come or go -/
theorem Rel.junk (R : Rel K Φ F σ H s) {p : Addr} (nf : F p = none) (h0 : Φ.H0 p = none) (ns : Φ.not p) (no : ¬ OwnAt σ s p) (hh : ∀ b, b ≠ p → H' b = H b) : Rel K Φ F σ H' s := by
  refine ⟨R.f0, fun b u q => by rw [hh b (ne_of_none q nf)]; exact R.fh _ _ q, R.new, fun b u hn q => by rw [hh b (ne_of_none q h0)]; exact R.keep b u hn q, fun h => ?_, R.srcN, R.len, fun j dv q => ?_, R.apart⟩
  · obtain ⟨h1, h2, h3⟩ := R.srcH h
    exact ⟨h1, by rw [hh _ (Ne.symm (ns h).1)]; exact h2, by rw [hh _ (Ne.symm (ns h).2)]; exact h3⟩
  · obtain ⟨u, e2, h2⟩ := R.env j dv q
    refine ⟨u, e2, ?_⟩
    cases dv with
    | im d1 => exact h2
    | own d1 =>
      obtain ⟨b, o', rfl, g0, gf, gh, gc⟩ := h2
      have hb : b ≠ p := fun z => no ⟨j, d1, q, by rw [e2, z]⟩
      exact ⟨b, o', rfl, g0, gf, by rw [hh b hb]; exact gh, gc⟩
    | src => exact h2
    | me => exact h2
end

/-- no exception is let out -/
def noX {α : Type} : Rs α → Rs α
  | .ok a s => .ok a s
  | _ => .bad
/-- the turns of a comprehension: what is made so far -/
def lcL (own : List Nat) (t : D → DS → Option DS) (c : DS → Rs Bool) (f : DS → Rs D) : List D → List D → DS → Rs (List D)
  | [], acc, s => .ok acc s
  | d :: r, acc, s => match t d (wipeD s own) with
    | none => .bad
    | some s => (noX (c s)).bind fun b s => if b = true then (noX (f s)).bind fun y s => if acc.length < LN then lcL own t c f r (acc ++ [y]) s else .bad else lcL own t c f r acc s
def lcS (own : List Nat) (fi : DS → Rs (List D)) (t : D → DS → Option DS) (c : DS → Rs Bool) (f : DS → Rs D) : DS → Rs D := fun s => (fi s).bind fun items s1 =>
  if calmD own s1 = true then (noX (lcL own t c f items [] s1)).bind fun acc s2 => .ok (.lst acc) (restD own s1 s2) else .bad
abbrev WF : WX := fun _ _ _ _ => False
theorem noX_ok {α β : Type} {r : Rs α} {g : α → DS → Rs β} {b : β} {s : DS} (h : (noX r).bind g = .ok b s) : ∃ a s1, r = .ok a s1 ∧ g a s1 = .ok b s := by
  cases r with
  | ok a s1 => exact ⟨a, s1, rfl, h⟩
  | exc _ _ => cases h
  | bad => cases h
abbrev DTs (X : Cx) (Φ : Fx) (W : WX) (ifs : List Expr) (f : DS → Rs Bool) : Prop := PTs X ifs (tTs X.K X.mg Φ W f)
theorem PTs.imp {X : Cx} {e : List Expr} {t t' : TT} (h : PTs X e t) (q : ∀ σ H Q, t' σ H Q → t σ H Q) : PTs X e t' := ⟨fun pins s σ H Q I w => h.run pins s σ H Q I (q σ H Q w)⟩
def yesT : DS → Rs Bool := fun s => .ok true s
theorem dts_nil {X : Cx} {Φ : Fx} {W : WX} : DTs X Φ W [] yesT := PTs.imp pts_nil fun σ H Q ⟨F, s, R, h⟩ => h F H R .refl
theorem dts_one {X : Cx} {Φ : Fx} {W : WX} {c : Expr} {f : DS → Rs Bool} (h : DT X Φ W c f) : DTs X Φ W [c] f := pts_one h
theorem lst_ext {α : Type} {l l' : List α} (h : ∀ j : Nat, l[j]? = l'[j]?) : l = l' := List.ext_getElem? h
theorem wipe_ext {σ σ2 : St} {own : List Nat} (hl : σ2.length = (L2.wipe σ own).length) (h : ∀ j, j ∉ own → σ2[j]? = (L2.wipe σ own)[j]?) : L2.wipe σ2 own = L2.wipe σ own := by
  apply lst_ext
  intro j
  rw [wipe_length] at hl
  by_cases hj : j ∈ own
  · by_cases hlt : j < σ.length
    · rw [foldr_wipe, foldr_wipe, wipeL_in _ own j hj (by omega), wipeL_in _ own j hj hlt]
    · rw [List.getElem?_eq_none (by rw [wipe_length]; omega), List.getElem?_eq_none (by rw [wipe_length]; omega)]
  · rw [foldr_wipe σ2, wipeL_out _ own j hj, h j hj]
theorem wipeD_wipeD {s : DS} {own : List Nat} : (wipeD s own).env.length = s.env.length := by unfold wipeD; exact wipeL_len _ _
theorem restD_wipe {own : List Nat} {s1 s : DS} : restD own s1 (wipeD s own) = restD own s1 s := by
  unfold restD
  have : restL own s1.env (wipeD s own).env = restL own s1.env s.env := by
    unfold restL
    rw [wipeD_wipeD]
    apply List.map_congr_left
    intro i hi
    by_cases h : i ∈ own
    · rw [if_pos h, if_pos h]
    · rw [if_neg h, if_neg h]
      unfold wipeD
      rw [wipeL_out _ own i h]
  rw [this]; rfl
/-- the turns of [elt for tg in .. if ..] -/
theorem lc_turns {K : PySem.W.Frag} {mg : Str → Option Value} {Φ : Fx} {σ : St} {own vs : List Nat} {t : D → DS → Option DS} {c : DS → Rs Bool} {f : DS → Rs D} {F1 H1 : Hp} {s1 s2 : DS} {items accF : List D} {J : It} {Q : VK}
    (hvs : ∀ v ∈ vs, v ∈ own) (R1 : Rel K Φ F1 σ H1 s1) (ij : ItD K Φ.cc F1 J items) (hc : calmD own s1 = true) (run : lcL own t c f items [] s1 = .ok accF s2)
    (fin : ∀ F' H', Rel K Φ F' σ H' (restD own s1 s2) → ESt Φ σ s1 F1 H1 (restD own s1 s2) F' H' → ∀ p o, H' p = none → CellO K Φ.cc F' o (.lst accF) → Q (.ref p) (upd H' p o))
    (A : Addr) (hA : H1 A = none) : ∃ W : Nat → Nat → Hp → Prop, (∃ m, W 0 m (upd H1 A (.lst []))) ∧ ∀ i m H, W i m H →
      (J.stop i H ∧ Q (.ref A) H) ∨ (J.go i H ∧ ∃ Nx : Hp → Prop, (∀ H', Nx H' → ∃ m', m' < m ∧ W (i + 1) m' H') ∧ ∀ x H', J.yld i H x H' → tG K Φ vs t x (L2.wipe σ own) H' fun σ2 H2 => L2.wipe σ2 own = L2.wipe σ own ∧ tTs K mg Φ WF c σ2 H2 fun b H3 =>
        if b = true then tD K mg Φ WF f σ2 H3 fun y H4 => ∃ acc, H4 A = some (.lst acc) ∧ acc.length < sizeLine ∧ Nx (upd H4 A (.lst (acc ++ [y]))) else Nx H3) := by
  have h0A := R1.h0 hA
  have nA : Φ.not A := fun hs => by
    have sx := R1.srcH hs
    constructor
    · intro z; rw [z, sx.2.1] at hA; cases hA
    · intro z; rw [z, sx.2.2] at hA; cases hA
  have noA : ¬ OwnAt σ s1 A := fun z => by obtain ⟨_, _, o, h⟩ := R1.ownH z; rw [hA] at h; cases h
  -- the invariant at a state
  let Inv1 : Hp → Hp → DS → List D → List V → Prop := fun F H s acc av =>
    Rel K Φ F (L2.wipe σ own) H (wipeD s own) ∧ Same F1 F ∧ H A = some (.lst av) ∧ Reps K Φ.cc F acc av ∧ F A = none ∧ (∀ a, OwnAt (L2.wipe σ own) (wipeD s own) a → OwnAt σ s1 a) ∧
      (∀ a o, Φ.not a → H1 a = some o → H a = some o) ∧ (∀ a o, F a = some o → F1 a = some o ∨ H1 a = none ∨ OwnAt σ s1 a)
  refine ⟨fun i m H => m = items.length - i ∧ i ≤ items.length ∧ ∃ F s acc av, Inv1 F H s acc av ∧ lcL own t c f (items.drop i) acc s = .ok accF s2, ⟨_, rfl, Nat.zero_le _, F1, s1, [], [], ⟨?_, Same.refl _, upd_same, reps_nil.mpr rfl, R1.fh.free hA, wipe_own hc, fun a o _ e => by rw [upd_ne (ne_of_none e hA)]; exact e, fun a o e => .inl e⟩, run⟩, ?_⟩
  · exact (R1.wipe own).junk (R1.fh.free hA) h0A nA (fun z => noA (wipe_own hc A z)) fun b hb => upd_ne hb
  rintro i m H ⟨rfl, hi, F, s, acc, av, ⟨R, sm1, hD, racc, fA, hown, hkeep, hborn⟩, hrun⟩
  by_cases hlt : i < items.length
  · have ed : items.drop i = items[i] :: items.drop (i + 1) := List.drop_eq_getElem_cons hlt
    rw [ed] at hrun
    refine .inr ⟨ij.go i F H hlt sm1 R.fh, fun H' => i + 1 ≤ items.length ∧ ∃ F s acc av, Inv1 F H' s acc av ∧ lcL own t c f (items.drop (i + 1)) acc s = .ok accF s2, fun H' h => ⟨items.length - (i + 1), by omega, rfl, h⟩, fun x H' y => ?_⟩
    obtain ⟨d, F3, ed3, g3, r3⟩ := ij.yld i F H x H' hlt sm1 R.fh y
    rw [List.getElem?_eq_getElem hlt] at ed3
    cases ed3
    unfold lcL at hrun
    cases z : t items[i] (wipeD s own) with
    | none => rw [z] at hrun; cases hrun
    | some s3 =>
      rw [z] at hrun
      dsimp only at hrun
      obtain ⟨b, s4, ec, hrun⟩ := noX_ok hrun
      have R3' := R.gr g3
      refine ⟨F3, wipeD s own, _, s3, R3', r3, z, fun σ2 hl2 hj2 ho2 R3 => ?_⟩
      have ew : L2.wipe σ2 own = L2.wipe σ own := wipe_ext hl2 fun j hj => hj2 j fun q => hj (hvs j q)
      refine ⟨ew, F3, s3, R3, ?_⟩
      rw [ec]
      intro F4 H4 R4 e4
      -- what stands of the new list behind steps
      have step : ∀ {F5 H5 : Hp} {s5 : DS}, ESt Φ σ2 s3 F3 H' s5 F5 H5 → Rel K Φ F5 σ2 H5 s5 → Rel K Φ F5 (L2.wipe σ own) H5 (wipeD s5 own) ∧ Same F1 F5 ∧ H5 A = some (.lst av) ∧ Reps K Φ.cc F5 acc av ∧ F5 A = none ∧ (∀ a, OwnAt (L2.wipe σ own) (wipeD s5 own) a → OwnAt σ s1 a) ∧
          (∀ a o, Φ.not a → H1 a = some o → H5 a = some o) ∧ (∀ a o, F5 a = some o → F1 a = some o ∨ H1 a = none ∨ OwnAt σ s1 a) := fun {F5 H5 s5} e5 R5 => by
        have hA' : H' A = some (.lst av) := g3.keep _ _ hD
        have fA3 : F3 A = none := by
          cases q : F3 A with
          | none => rfl
          | some o => rcases g3.born A o q with y | y
                      · rw [fA] at y; cases y
                      · rw [hD] at y; cases y
        have own5 : ∀ a, OwnAt σ2 s5 a → OwnAt σ s1 a := fun a q => hown a (ho2 a (e5.own a q))
        have born5 : ∀ a o, F5 a = some o → F1 a = some o ∨ H1 a = none ∨ OwnAt σ s1 a := fun a o q => by
          have hnone : ∀ {b}, H b = none → H1 b = none := fun {b} q => by
            cases y : H1 b with
            | none => rfl
            | some u =>
              by_cases hn : Φ.not b
              · rw [hkeep b u hn y] at q; cases q
              · have : H1 b ≠ none := by rw [y]; simp
                unfold Fx.not at hn
                have hs : Φ.hs = true := Classical.byContradiction fun z => hn fun y => absurd y z
                have sx := R.srcH hs
                by_cases ha : b = Φ.sa
                · subst ha; rw [sx.2.1] at q; cases q
                · by_cases hb : b = Φ.sb
                  · subst hb; rw [sx.2.2] at q; cases q
                  · exact absurd (fun _ => ⟨ha, hb⟩) hn
          rcases e5.born a o q with y | y | y
          · rcases g3.born a o y with y | y
            · exact hborn a o y
            · exact .inr (.inl (hnone y))
          · exact .inr (.inl (hnone (g3.keep.free y)))
          · exact .inr (.inr (hown a (ho2 a y)))
        refine ⟨by rw [← ew]; exact R5.wipe own, sm1.trans (g3.mono.trans e5.mono), e5.keep _ _ nA hA', (racc.mono g3.mono).mono e5.mono, ?_, fun a ⟨j, d, q1, q2⟩ => own5 a ?_, fun a o hn q => e5.keep a o hn (g3.keep _ _ (hkeep a o hn q)), born5⟩
        · cases q : F5 A with
          | none => rfl
          | some o => rcases e5.born A o q with y | y | y
                      · rw [fA3] at y; cases y
                      · rw [hA'] at y; cases y
                      · exact absurd (hown A (ho2 A y)) noA
        · by_cases hj : j ∈ own
          · have hl : j < s5.env.length := by
              have := (List.getElem?_eq_some_iff.mp q1).1
              rwa [wipeD_wipeD] at this
            unfold wipeD at q1
            rw [wipeL_in _ own j hj hl] at q1
            cases q1
          · unfold wipeD at q1
            rw [wipeL_out _ own j hj] at q1
            rw [← ew, foldr_wipe, wipeL_out _ own j hj] at q2
            exact ⟨j, d, q1, q2⟩
      cases b with
      | false =>
        dsimp only
        rw [if_neg Bool.false_ne_true] at hrun ⊢
        exact ⟨hlt, F4, s4, acc, av, step e4 R4, hrun⟩
      | true =>
        dsimp only
        rw [if_pos rfl] at hrun ⊢
        obtain ⟨yv, s5, ef, hrun⟩ := noX_ok hrun
        split at hrun
        case isTrue hlen =>
          refine ⟨F4, s4, R4, ?_⟩
          rw [ef]
          intro F5 H5 R5 e5 v rv
          obtain ⟨a1, a2, a3, a4, a5, a6, a7, a8⟩ := step (e4.trans R4 e5) R5
          refine ⟨av, a3, by rw [racc.len, ← LN_eq]; exact hlen, hlt, F5, s5, acc ++ [yv], av ++ [v], ⟨a1.junk a5 h0A nA (fun z => noA (a6 A z)) fun b hb => upd_ne hb, a2, upd_same, a4.app (reps_one rv), a5, a6, fun a o hn q => ?_, a8⟩, hrun⟩
          rw [upd_ne (ne_of_none q hA)]
          exact a7 a o hn q
        · cases hrun
  · have ei : i = items.length := by omega
    subst ei
    rw [List.drop_length] at hrun
    unfold lcL at hrun
    cases hrun
    refine .inl ⟨ij.stop _ F H rfl sm1 R.fh, ?_⟩
    -- the list at A is taken out of the heap, and comes in anew
    have hl : s2.env.length = s1.env.length := by
      have h1 := R.len
      rw [wipe_length, wipeD_wipeD, R1.len] at h1
      exact h1.symm
    obtain ⟨Rb, ob⟩ := R1.back (own := own) hc R sm1 (by rw [wipeD_wipeD]; exact hl) (fun j hj => by rw [foldr_wipe, wipeL_out _ own j hj]) (wipe_length _ _) hown
    rw [restD_wipe] at Rb ob
    let H' : Hp := fun b => if b = A then none else H b
    have hH' : upd H' A (.lst av) = H := by
      funext b
      unfold upd
      by_cases hb : b = A
      · subst hb; rw [if_pos rfl]; exact hD.symm
      · rw [if_neg hb]; exact if_neg hb
    have Rj : Rel K Φ F σ H' (restD own s1 s2) := Rb.junk fA h0A nA (fun z => noA (hown A (ob A z))) fun b hb => if_neg hb
    have := fin F H' Rj ⟨sm1, fun a o hn e => by
      show (if a = A then none else H a) = _
      rw [if_neg (ne_of_none e hA)]
      exact hkeep a o hn e, hborn, fun a z => hown a (ob a z)⟩ A (.lst av) (if_pos rfl) ⟨av, rfl, racc⟩
    rw [hH'] at this
    exact this
section
variable {X : Cx} {Φ : Fx} {W : WX} {pos : Pos}
theorem df_lc {elt tg iter : Expr} {ifs : List Expr} {scope : Scope} {own : List (Str × Nat)} {vs : List Nat} {fi : DS → Rs (List D)} {t : D → DS → Option DS} {c : DS → Rs Bool} {f : DS → Rs D} (hc : X.calm = true) (hN : X.N.Nodup) (hvs : ∀ v ∈ vs, v ∈ own.map (·.2)) (hi : DI X Φ W tg iter fi) (ok : BlkOk X.N X.env.scope scope own)
    (hg : ∀ (s : Shared) (H : Hp) (C : Addr) (cl : List (Str × Addr)) (fp : List Addr), DG (X.blk s H scope (compEnvC scope cl C X.env) fp) Φ tg vs t) (ht : ∀ (s : Shared) (H : Hp) (C : Addr) (cl : List (Str × Addr)) (fp : List Addr), DTs (X.blk s H scope (compEnvC scope cl C X.env) fp) Φ WF ifs c)
    (he : ∀ (s : Shared) (H : Hp) (C : Addr) (cl : List (Str × Addr)) (fp : List Addr), DE (X.blk s H scope (compEnvC scope cl C X.env) fp) Φ WF elt f) (hs : ∀ x, foldedSetIterable iter X.env x = pure x) :
    DF X Φ W (.ListComp elt [⟨tg, iter, ifs, 0⟩] scope pos) (lcS (own.map (·.2)) fi t c f) :=
  PE.imp (pe_lc hc hN hi ok hg ht he hs) fun σ H Q ⟨F, s, R, q⟩ => ⟨F, s, R, (Hold.bind q).imp fun F1 H1 items s1 R1 e1 h1 J ij A hA => by
    split at h1
    case isTrue hcd =>
      cases run : lcL (own.map (·.2)) t c f items [] s1 with
      | ok acc s2 =>
        rw [run] at h1
        exact lc_turns (mg := X.mg) hvs R1 ij hcd run (fun F' H' R' e' => h1 F' H' R' e') A hA
      | exc _ _ => rw [run] at h1; exact h1.elim
      | bad => rw [run] at h1; exact h1.elim
    · exact h1.elim⟩
end
end Cut
namespace Cut
open PySem PySem.Spec L2
open PyProof.Rows hiding St

/-! ### what is walked: lists, tuples, texts, ranges -/
section
variable {K : PySem.W.Frag} {cc : Addr} {F1 : Hp}
theorem itd_list {a : Addr} {vs : List V} {ds : List D} (h : F1 a = some (.lst vs)) (r : Reps K cc F1 ds vs) : ItD K cc F1 (Itl K a) ds where
  go := fun i F H hi sm fh => by
    obtain ⟨v, e, _⟩ := r.get (List.getElem?_eq_getElem hi)
    exact ⟨vs, v, .of (fh _ _ (sm _ _ h)), e⟩
  stop := fun i F H hi sm fh => ⟨vs, .of (fh _ _ (sm _ _ h)), by rw [r.len, hi]; exact Nat.le_refl _⟩
  yld := fun i F H x H' hi sm fh y => by
    obtain ⟨rfl, y⟩ := y
    obtain ⟨d, e, q⟩ := r.getV (y vs (.of (fh _ _ (sm _ _ h))))
    exact ⟨d, F, e, .refl fh, Rep.mono sm _ _ q⟩
theorem itd_tup {a : Addr} {o : HO} {vs : List V} {ds : List D} (h : F1 a = some o) (t : TX o vs) (r : Reps K cc F1 ds vs) : ItD K cc F1 (Itt K a) ds where
  go := fun i F H hi sm fh => by
    obtain ⟨v, e, _⟩ := r.get (List.getElem?_eq_getElem hi)
    exact ⟨vs, v, t.sq (fh _ _ (sm _ _ h)), e⟩
  stop := fun i F H hi sm fh => ⟨vs, t.sq (fh _ _ (sm _ _ h)), by rw [r.len, hi]; exact Nat.le_refl _⟩
  yld := fun i F H x H' hi sm fh y => by
    obtain ⟨rfl, y⟩ := y
    obtain ⟨d, e, q⟩ := r.getV (y vs (t.sq (fh _ _ (sm _ _ h))))
    exact ⟨d, F, e, .refl fh, Rep.mono sm _ _ q⟩
theorem itd_str {w : Wd} : ItD K cc F1 (Its (S w)) (w.map fun c => D.str [c]) where
  go := fun i F H hi sm fh => by
    show i < (S w).cps.size
    simpa [S] using hi
  stop := fun i F H hi sm fh => by
    show (S w).cps.size ≤ i
    simp [S, hi]
  yld := fun i F H x H' hi sm fh y => by
    obtain ⟨rfl, c, e, rfl⟩ := y
    refine ⟨.str [c], F, ?_, .refl fh, rep_str⟩
    have e' : w[i]? = some c := by simpa [S] using e
    rw [List.getElem?_map, e']; rfl
def rangeD (lo : Int) (n : Nat) : List D := (List.range n).map fun i => .int (lo + (i : Nat))
theorem itd_range {lo : Int} {n : Nat} : ItD K cc F1 (Itr lo n) (rangeD lo n) where
  go := fun i F H hi sm fh => by simpa [rangeD, Itr] using hi
  stop := fun i F H hi sm fh => by
    show n ≤ i
    simp [rangeD] at hi; omega
  yld := fun i F H x H' hi sm fh y => by
    obtain ⟨rfl, rfl⟩ := y
    refine ⟨.int (lo + (i : Nat)), F, ?_, .refl fh, rep_int⟩
    have : i < n := by simpa [rangeD] using hi
    unfold rangeD
    rw [List.getElem?_map, List.getElem?_range this]; rfl
def rangeC (lo c : Int) (n : Nat) : List D := (List.range n).map fun i => .int (lo + (i : Nat) * c)
theorem itd_rangeC {lo c : Int} {n : Nat} : ItD K cc F1 (Itc lo c n) (rangeC lo c n) where
  go := fun i F H hi sm fh => by simpa [rangeC, Itc] using hi
  stop := fun i F H hi sm fh => by
    show n ≤ i
    simp [rangeC] at hi; omega
  yld := fun i F H x H' hi sm fh y => by
    obtain ⟨rfl, rfl⟩ := y
    refine ⟨.int (lo + (i : Nat) * c), F, ?_, .refl fh, rep_int⟩
    have : i < n := by simpa [rangeC] using hi
    unfold rangeC
    rw [List.getElem?_map, List.getElem?_range this]; rfl
end

def itemsOf : D → Option (List D)
  | .lst xs => some xs
  | .tup xs => some xs
  | .str w => some (w.map fun c => .str [c])
  | _ => none
def seqI (f : DS → Rs D) : DS → Rs (List D) := fun s => (f s).bind fun d s => Rs.of (itemsOf d) s
def big (i : Int) : Bool := decide (-(2 ^ 62) ≤ i) && decide (i < 2 ^ 62)
def rng1 : List D → Option (List D)
  | [.int j] => if big j = true then some (rangeD 0 j.toNat) else none
  | _ => none
def rng2 : List D → Option (List D)
  | [.int i, .int j] => if big i && big j then some (rangeD i (j - i).toNat) else none
  | _ => none
/-- a step down by one, or up by a small one -/
def rng3 : List D → Option (List D)
  | [.int i, .int j, .int c] => if big i && big j then
      (if c = -1 then some (rangeC i (-1) (i - j).toNat)
       else if 0 < c ∧ c < 1000 ∧ -1000000 < i ∧ i < 1000000 ∧ -1000000 < j ∧ j < 1000000 then some (rangeC i c ((j - i + (c - 1)) / c).toNat) else none) else none
  | _ => none
def rngI (op : List D → Option (List D)) (g : DS → Rs (List D)) : DS → Rs (List D) := fun s => (g s).bind fun ds s => Rs.of (op ds) s
section
variable {X : Cx} {Φ : Fx} {W : WX} {tg e : Expr} {f : DS → Rs D} {pos : Pos}
theorem PI.imp {wi wi' : TI} {it : Expr} (h : PI X tg it wi) (q : ∀ σ H R, wi' σ H R → wi σ H R) : PI X tg it wi' := ⟨fun pins s σ H R I w => h.run pins s σ H R I (q σ H R w)⟩
theorem di_seq (he : DE X Φ W e f) : DI X Φ W tg e (seqI f) := by
  refine ⟨fun pins s σ H R I ⟨F, s0, R0, h⟩ => ?_⟩
  cases z : f s0 with
  | exc x s1 =>
    have h' : Hold X.K X.mg Φ W F σ H s0 (f s0) (fun F' H' d _ => ∀ v, Rep X.K Φ.cc F' d v → (fun (_ : V) (_ : Hp) => False) v H') := by
      unfold seqI at h
      rw [z] at h ⊢
      exact h
    exact thn (he.run pins s σ H _ I ⟨F, s0, R0, h'⟩) fun v s1 ⟨_, _, _, _, q⟩ => q.elim
  | bad => unfold seqI at h; rw [z] at h; exact h.elim
  | ok d s1 =>
    unfold seqI at h
    rw [z] at h
    cases d with
    | lst xs =>
      refine (pi_list he).run pins s σ H R I ⟨F, s0, R0, ?_⟩
      rw [z]
      intro F' H' R' e' v rv
      unfold Rep at rv
      obtain ⟨a, vs, rfl, h1, h2⟩ := rv
      exact ⟨a, rfl, ⟨vs, .of (R'.fh _ _ h1)⟩, h F' H' R' e' _ (itd_list h1 h2)⟩
    | tup xs =>
      refine (pi_tup he).run pins s σ H R I ⟨F, s0, R0, ?_⟩
      rw [z]
      intro F' H' R' e' v rv
      unfold Rep at rv
      obtain ⟨a, o, vs, rfl, h1, t1, h2⟩ := rv
      exact ⟨a, rfl, ⟨vs, t1.sq (R'.fh _ _ h1)⟩, h F' H' R' e' _ (itd_tup h1 t1 h2)⟩
    | str w =>
      refine (pi_str he).run pins s σ H R I ⟨F, s0, R0, ?_⟩
      rw [z]
      intro F' H' R' e' v rv
      unfold Rep at rv
      subst rv
      exact ⟨S w, rfl, h F' H' R' e' _ itd_str⟩
    | _ => exact h.elim
theorem repsB1 {K : PySem.W.Frag} {F H : Hp} {d : D} {vs : List V} (h : RepsB K Φ F H [d] vs) : ∃ v, vs = [v] ∧ RepB K Φ F H d v := by
  obtain ⟨v, r, rfl, h1, h2⟩ := h
  cases h2
  exact ⟨v, rfl, h1⟩
theorem repsB2 {K : PySem.W.Frag} {F H : Hp} {d e : D} {vs : List V} (h : RepsB K Φ F H [d, e] vs) : ∃ v u, vs = [v, u] ∧ RepB K Φ F H d v ∧ RepB K Φ F H e u := by
  obtain ⟨v, r, rfl, h1, h2⟩ := h
  obtain ⟨u, rfl, h3⟩ := repsB1 h2
  exact ⟨v, u, rfl, h1, h3⟩
theorem repsB3 {K : PySem.W.Frag} {F H : Hp} {d e g : D} {vs : List V} (h : RepsB K Φ F H [d, e, g] vs) : ∃ v u w, vs = [v, u, w] ∧ RepB K Φ F H d v ∧ RepB K Φ F H e u ∧ RepB K Φ F H g w := by
  obtain ⟨v, r, rfl, h1, h2⟩ := h
  obtain ⟨u, w, rfl, h3, h4⟩ := repsB2 h2
  exact ⟨v, u, w, rfl, h1, h3, h4⟩
theorem ofL_hold {K : PySem.W.Frag} {mg : Str → Option Value} {F : Hp} {σ : St} {H : Hp} {s s' : DS} {o : Option (List D)} {P : Hp → Hp → List D → DS → Prop} (h : Hold K mg Φ W F σ H s (Rs.of o s') P) : ∃ z, o = some z ∧ ∀ F' H', Rel K Φ F' σ H' s' → ESt Φ σ s F H s' F' H' → P F' H' z s' := by
  cases o with
  | none => exact h.elim
  | some z => exact ⟨z, rfl, h⟩
theorem big_of {i : Int} (h : big i = true) : -(2 ^ 62) ≤ i ∧ i < 2 ^ 62 := by
  unfold big at h
  rw [Bool.and_eq_true] at h
  exact ⟨of_decide_eq_true h.1, of_decide_eq_true h.2⟩
theorem di_rng1 {a : Expr} {p : Pos} {g : DS → Rs (List D)} (hg : Gl X "range") (hm : X.mg "range" = none) (hs : starEach [a] X.env = [(false, eval a X.env)]) (ha : DAb X Φ W [a] g) : DI X Φ W tg (.Call (.Name "range" p) [a] [] pos) (rngI rng1 g) :=
  PI.imp (pi_range1 hg hm ha hs) fun σ H R ⟨F, s, R0, h⟩ => ⟨F, s, R0, (Hold.bind h).imp fun F1 H1 ds s1 R1 e1 h1 vs rvs => by
    obtain ⟨z, ez, h2⟩ := ofL_hold h1
    unfold rng1 at ez
    split at ez
    case h_1 j =>
      split at ez
      case isTrue hb =>
        cases ez
        obtain ⟨v, rfl, r1⟩ := repsB1 rvs
        have := big_of hb
        exact ⟨j, by rw [r1.int], this.1, this.2, h2 F1 H1 R1 .refl _ itd_range⟩
      · cases ez
    · cases ez⟩
theorem di_rng2 {a b : Expr} {p : Pos} {g : DS → Rs (List D)} (hg : Gl X "range") (hm : X.mg "range" = none) (hs : starEach [a, b] X.env = [(false, eval a X.env), (false, eval b X.env)]) (hs2 : starEach [b] X.env = [(false, eval b X.env)]) (ha : DAb X Φ W [a, b] g) : DI X Φ W tg (.Call (.Name "range" p) [a, b] [] pos) (rngI rng2 g) :=
  PI.imp (pi_range2 hg hm ha hs hs2) fun σ H R ⟨F, s, R0, h⟩ => ⟨F, s, R0, (Hold.bind h).imp fun F1 H1 ds s1 R1 e1 h1 vs rvs => by
    obtain ⟨z, ez, h2⟩ := ofL_hold h1
    unfold rng2 at ez
    split at ez
    case h_1 i j =>
      split at ez
      case isTrue hb =>
        cases ez
        rw [Bool.and_eq_true] at hb
        obtain ⟨v, u, rfl, r1, r2⟩ := repsB2 rvs
        have b1 := big_of hb.1
        have b2 := big_of hb.2
        exact ⟨i, j, by rw [r1.int, r2.int], ⟨b1.1, b1.2, b2.1, b2.2⟩, h2 F1 H1 R1 .refl _ itd_range⟩
      · cases ez
    · cases ez⟩
theorem di_rng3 {a b c : Expr} {p : Pos} {g : DS → Rs (List D)} (hg : Gl X "range") (hm : X.mg "range" = none) (hs : starEach [a, b, c] X.env = (false, eval a X.env) :: starEach [b, c] X.env) (hpl : (backTo pos (starEach [b, c] X.env)).any (·.1) = false) (ha : DAb X Φ W [a, b, c] g) : DI X Φ W tg (.Call (.Name "range" p) [a, b, c] [] pos) (rngI rng3 g) :=
  PI.imp (pi_range3 hg hm ha hs hpl) fun σ H R ⟨F, s, R0, h⟩ => ⟨F, s, R0, (Hold.bind h).imp fun F1 H1 ds s1 R1 e1 h1 vs rvs => by
    obtain ⟨z, ez, h2⟩ := ofL_hold h1
    unfold rng3 at ez
    split at ez
    case h_1 i j c =>
      split at ez
      case isTrue hb =>
        rw [Bool.and_eq_true] at hb
        obtain ⟨v, u, w, rfl, r1, r2, r3⟩ := repsB3 rvs
        have b1 := big_of hb.1
        have b2 := big_of hb.2
        split at ez
        case isTrue hc =>
          cases ez
          subst hc
          exact ⟨i, j, -1, _, by rw [r1.int, r2.int, r3.int], RgC.neg b1.1 b1.2 b2.1 b2.2, h2 F1 H1 R1 .refl _ itd_rangeC⟩
        case isFalse hc =>
          split at ez
          case isTrue hcc =>
            cases ez
            refine ⟨i, j, c, _, by rw [r1.int, r2.int, r3.int], ⟨by omega, by omega, ?_, ?_⟩, h2 F1 H1 R1 .refl _ itd_rangeC⟩
            · unfold Builtin.Range.small
              have : Builtin.Range.rangeSize i j c < 4000000 ∧ 0 ≤ Builtin.Range.rangeSize i j c := by
                unfold Builtin.Range.rangeSize
                rw [if_pos (show c > 0 by omega)]
                split
                · have h1 : (j - i - 1) / c ≤ j - i - 1 := Int.ediv_le_self _ (by omega)
                  have h2 : 0 ≤ (j - i - 1) / c := Int.ediv_nonneg (by omega) (by omega)
                  omega
                · omega
              generalize Builtin.Range.rangeSize i j c = n at this ⊢
              simp only [Builtin.Range.rangeFitsLong, Bool.and_eq_true, Bool.or_eq_true, decide_eq_true_eq, beq_iff_eq, if_pos (show c > 0 by omega)]
              omega
            · unfold Builtin.Range.rangeSize
              rw [if_pos (show c > 0 by omega)]
              split
              case isTrue hij =>
                have e : j - i + (c - 1) = (j - i - 1) + c := by omega
                have h2 : 0 ≤ (j - i - 1) / c := Int.ediv_nonneg (by omega) (by omega)
                rw [e, Int.add_ediv_of_dvd_right (Int.dvd_refl c), Int.ediv_self (by omega)]
                omega
              case isFalse hij =>
                have : (j - i + (c - 1)) / c ≤ 0 := by
                  have h3 : (j - i + (c - 1)) / c < 1 := Int.ediv_lt_of_lt_mul (by omega) (by omega)
                  omega
                omega
          · cases ez
      · cases ez
    · cases ez⟩
end
end Cut
namespace Cut
open PySem PySem.Spec L2
open PyProof.Rows hiding St

theorem toPys_map : ∀ ds : List D, toPys ds = ds.map toPy
  | [] => rfl
  | d :: r => by simp [toPys, toPys_map r]
mutual
theorem toPy_inj : ∀ (n m : Nat) (x y : D), pln n x = true → pln m y = true → toPy x = toPy y → x = y
  | _, _, .non, y, _, h, e => by cases y <;> simp [toPy] at e <;> first | rfl | (cases ‹Nat› <;> simp [pln] at h)
  | _, _, .bl _, y, _, _, e => by cases y <;> simp [toPy] at e; subst e; rfl
  | _, _, .int _, y, _, _, e => by cases y <;> simp [toPy] at e; subst e; rfl
  | _, _, .str _, y, _, _, e => by cases y <;> simp [toPy] at e; rw [S_inj e]
  | n, m, .lst xs, y, h, h', e => by
    cases y <;> simp [toPy] at e
    cases n with
    | zero => simp [pln] at h
    | succ n => cases m with
      | zero => simp [pln] at h'
      | succ m => rw [toPys_inj n m xs _ (by simpa [pln] using h) (by simpa [pln] using h') e]
  | n, m, .tup xs, y, h, h', e => by
    cases y <;> simp [toPy] at e
    cases n with
    | zero => simp [pln] at h
    | succ n => cases m with
      | zero => simp [pln] at h'
      | succ m => rw [toPys_inj n m xs _ (by simpa [pln] using h) (by simpa [pln] using h') e]
  | n, _, .dct _ _, _, h, _, _ => by cases n <;> simp [pln] at h
  | n, _, .cod _ _ _, _, h, _, _ => by cases n <;> simp [pln] at h
theorem toPys_inj : ∀ (n m : Nat) (xs ys : List D), plns n xs = true → plns m ys = true → toPys xs = toPys ys → xs = ys
  | _, _, [], ys, _, _, e => by cases ys <;> simp [toPys] at e; rfl
  | n, m, x :: xs, ys, h, h', e => by
    cases ys with
    | nil => simp [toPys] at e
    | cons y ys =>
      simp [toPys] at e
      have h : pln n x = true ∧ plns n xs = true := by simpa [plns] using h
      have h' : pln m y = true ∧ plns m ys = true := by simpa [plns] using h'
      rw [toPy_inj n m x y h.1 h'.1 e.1, toPys_inj n m xs ys h.2 h'.2 e.2]
end
theorem plns_all (n : Nat) : ∀ ds : List D, plns n ds = ds.all (pln n)
  | [] => by simp [plns]
  | d :: r => by simp [plns, plns_all n r]
def dlt (x y : D) : Bool := PySem.W.dataLt (toPy x) (toPy y)
def solid : D → Bool
  | .non => false
  | .dct _ _ => false
  | .cod _ _ _ => false
  | _ => true
def likes (ds : List D) : Bool := ds.all fun x => solid x && ds.all fun y => PySem.W.alike (toPy x) (toPy y)
def minF (x : D) (xs : List D) : D := xs.foldl (fun a y => if dlt y a then y else a) x
def maxF (x : D) (xs : List D) : D := xs.foldl (fun a y => if dlt a y then y else a) x
theorem minF_py (x : D) : ∀ xs : List D, toPy (minF x xs) = PySem.W.minD (toPy x) (toPys xs) := fun xs => by
  unfold minF PySem.W.minD
  induction xs generalizing x with
  | nil => rfl
  | cons y r ih =>
    rw [List.foldl_cons, toPys, List.foldl_cons, ih]
    congr 1
    unfold dlt; split <;> rfl
theorem maxF_py (x : D) : ∀ xs : List D, toPy (maxF x xs) = PySem.W.maxD (toPy x) (toPys xs) := fun xs => by
  unfold maxF PySem.W.maxD
  induction xs generalizing x with
  | nil => rfl
  | cons y r ih =>
    rw [List.foldl_cons, toPys, List.foldl_cons, ih]
    congr 1
    unfold dlt; split <;> rfl
theorem minF_mem (x : D) (xs : List D) : minF x xs ∈ x :: xs := by
  unfold minF
  induction xs generalizing x with
  | nil => simp
  | cons y r ih =>
    rw [List.foldl_cons]
    have := ih (if dlt y x = true then y else x)
    split at this <;> simp at this ⊢ <;> rcases this with h | h <;> simp [h, *]
theorem maxF_mem (x : D) (xs : List D) : maxF x xs ∈ x :: xs := by
  unfold maxF
  induction xs generalizing x with
  | nil => simp
  | cons y r ih =>
    rw [List.foldl_cons]
    have := ih (if dlt x y = true then y else x)
    split at this <;> simp at this ⊢ <;> rcases this with h | h <;> simp [h, *]
theorem likes_all {ds : List D} (h : likes ds = true) : PySem.W.AlikeAll (toPys ds) := by
  unfold likes at h
  rw [List.all_eq_true] at h
  rw [toPys_map]
  refine ⟨fun x hx y hy => ?_, fun x hx => ?_⟩
  · obtain ⟨a, ha, rfl⟩ := List.mem_map.mp hx
    obtain ⟨b, hb, rfl⟩ := List.mem_map.mp hy
    have := h a ha
    rw [Bool.and_eq_true, List.all_eq_true] at this
    exact this.2 b hb
  · obtain ⟨a, ha, rfl⟩ := List.mem_map.mp hx
    have := h a ha
    rw [Bool.and_eq_true] at this
    intro e
    cases a <;> simp [toPy] at e <;> simp [solid] at this
/-- one argument, a list of things of one kind -/
def minL : List D → Option D
  | [.lst (x :: xs)] => if plns 8 (x :: xs) && likes (x :: xs) then some (minF x xs) else none
  | _ => none
def maxL : List D → Option D
  | [.lst (x :: xs)] => if plns 8 (x :: xs) && likes (x :: xs) then some (maxF x xs) else none
  | _ => none

def lenD : List D → Option D
  | [.lst xs] => if xs.length ≤ LN then some (.int xs.length) else none
  | [.tup xs] => if xs.length ≤ LN then some (.int xs.length) else none
  | [.str w] => if w.length ≤ LN then some (.int w.length) else none
  | _ => none
def boolsOf : List D → Option (List Bool)
  | [] => some []
  | .bl b :: r => (boolsOf r).map (b :: ·)
  | _ => none
def intsOf : List D → Option (List Int)
  | [] => some []
  | .int b :: r => (intsOf r).map (b :: ·)
  | _ => none
def strsOf : List D → Option (List Wd)
  | [] => some []
  | .str b :: r => (strsOf r).map (b :: ·)
  | _ => none
def allL : List D → Option D
  | [.lst xs] => (boolsOf xs).map fun bs => .bl (bs.all id)
  | _ => none
def anyL : List D → Option D
  | [.lst xs] => (boolsOf xs).map fun bs => .bl (bs.any id)
  | _ => none
def sumL : List D → Option D
  | [.lst xs] => (intsOf xs).map fun ns => .int ns.sum
  | _ => none
def max2 : List D → Option D
  | [.int i, .int j] => some (.int (if j > i then j else i))
  | _ => none
def min2 : List D → Option D
  | [.int i, .int j] => some (.int (if j < i then j else i))
  | _ => none
def listL : List D → Option D
  | [.lst xs] => some (.lst xs)
  | [.tup xs] => some (.lst xs)
  | _ => none
def tupL : List D → Option D
  | [.lst xs] => some (.tup xs)
  | [.tup xs] => some (.tup xs)
  | _ => none
def int1 : List D → Option D
  | [.int i] => some (.int i)
  | _ => none
section
variable {K : PySem.W.Frag} {cc : Addr} {F : Hp}
theorem bools_vs : ∀ {ds : List D} {bs : List Bool} {vs : List V}, boolsOf ds = some bs → Reps K cc F ds vs → vs = bs.map V.bl
  | [], _, _, h, r => by cases h; rw [reps_nil] at r; subst r; rfl
  | .bl b :: r, _, _, h, q => by
    unfold boolsOf at h
    obtain ⟨bs, h1, rfl⟩ := Option.map_eq_some_iff.mp h
    obtain ⟨v, r', rfl, h2, h3⟩ := reps_cons.mp q
    unfold Rep at h2; subst h2
    rw [bools_vs h1 h3]; rfl
  | .non :: _, _, _, h, _ => by simp [boolsOf] at h
  | .int _ :: _, _, _, h, _ => by simp [boolsOf] at h
  | .str _ :: _, _, _, h, _ => by simp [boolsOf] at h
  | .lst _ :: _, _, _, h, _ => by simp [boolsOf] at h
  | .tup _ :: _, _, _, h, _ => by simp [boolsOf] at h
  | .dct _ _ :: _, _, _, h, _ => by simp [boolsOf] at h
  | .cod _ _ _ :: _, _, _, h, _ => by simp [boolsOf] at h
theorem ints_vs : ∀ {ds : List D} {bs : List Int} {vs : List V}, intsOf ds = some bs → Reps K cc F ds vs → vs = bs.map V.int
  | [], _, _, h, r => by cases h; rw [reps_nil] at r; subst r; rfl
  | .int b :: r, _, _, h, q => by
    unfold intsOf at h
    obtain ⟨bs, h1, rfl⟩ := Option.map_eq_some_iff.mp h
    obtain ⟨v, r', rfl, h2, h3⟩ := reps_cons.mp q
    unfold Rep at h2; subst h2
    rw [ints_vs h1 h3]; rfl
  | .non :: _, _, _, h, _ => by simp [intsOf] at h
  | .bl _ :: _, _, _, h, _ => by simp [intsOf] at h
  | .str _ :: _, _, _, h, _ => by simp [intsOf] at h
  | .lst _ :: _, _, _, h, _ => by simp [intsOf] at h
  | .tup _ :: _, _, _, h, _ => by simp [intsOf] at h
  | .dct _ _ :: _, _, _, h, _ => by simp [intsOf] at h
  | .cod _ _ _ :: _, _, _, h, _ => by simp [intsOf] at h
theorem strs_vs : ∀ {ds : List D} {bs : List Wd} {vs : List V}, strsOf ds = some bs → Reps K cc F ds vs → vs = (bs.map S).map V.str
  | [], _, _, h, r => by cases h; rw [reps_nil] at r; subst r; rfl
  | .str b :: r, _, _, h, q => by
    unfold strsOf at h
    obtain ⟨bs, h1, rfl⟩ := Option.map_eq_some_iff.mp h
    obtain ⟨v, r', rfl, h2, h3⟩ := reps_cons.mp q
    unfold Rep at h2; subst h2
    rw [strs_vs h1 h3]; rfl
  | .non :: _, _, _, h, _ => by simp [strsOf] at h
  | .bl _ :: _, _, _, h, _ => by simp [strsOf] at h
  | .int _ :: _, _, _, h, _ => by simp [strsOf] at h
  | .lst _ :: _, _, _, h, _ => by simp [strsOf] at h
  | .tup _ :: _, _, _, h, _ => by simp [strsOf] at h
  | .dct _ _ :: _, _, _, h, _ => by simp [strsOf] at h
  | .cod _ _ _ :: _, _, _, h, _ => by simp [strsOf] at h
end

section
variable {X : Cx} {Φ : Fx}
theorem cl_len : CallR X (.builtin "len") (rC X.K Φ lenD) := by
  intro pins s σ H vs us Q I rv ⟨F, ds, z, sm, hv, ez, q⟩
  have fin : ∀ n : Nat, z = .int n → Q (.int n) H := fun n e => by subst e; exact q F H _ (.refl sm) rep_int
  unfold lenD at ez
  split at ez
  · split at ez
    · cases ez
      obtain ⟨v, rfl, r1⟩ := repsB1 hv
      obtain ⟨a, xs, rfl, h1, h2⟩ := r1.lst sm
      exact call_len pins s σ H _ us Q I rv ⟨_, xs.length, rfl, .inl ⟨xs, .of h1, rfl⟩, by rw [h2.len]; exact fin _ rfl⟩
    · cases ez
  · split at ez
    · cases ez
      obtain ⟨v, rfl, r1⟩ := repsB1 hv
      obtain ⟨a, o, xs, rfl, g1, h1, t1, h2⟩ := r1.tup sm
      exact call_len pins s σ H _ us Q I rv ⟨_, xs.length, rfl, .inr ⟨xs, t1.sq h1, rfl⟩, by rw [h2.len]; exact fin _ rfl⟩
    · cases ez
  · split at ez
    case isTrue hl =>
      cases ez
      obtain ⟨v, rfl, r1⟩ := repsB1 hv
      exact call_len pins s σ H _ us Q I rv ⟨_, _, rfl, by rw [r1.str]; exact ⟨by rw [S_len, ← LN_eq]; exact hl, (S_len _).symm⟩, fin _ rfl⟩
    · cases ez
  · cases ez
theorem cl_all (hc : X.calm = true) : CallR X (.builtin "all") (rC X.K Φ allL) := by
  intro pins s σ H vs us Q I rv ⟨F, ds, z, sm, hv, ez, q⟩
  unfold allL at ez
  split at ez
  · obtain ⟨bs, h1, rfl⟩ := Option.map_eq_some_iff.mp ez
    obtain ⟨v, rfl, r1⟩ := repsB1 hv
    obtain ⟨a, xs, rfl, h2, h3⟩ := r1.lst sm
    have := bools_vs h1 h3
    subst this
    exact cr_all hc pins s σ H _ us Q I rv ⟨a, bs, rfl, .of h2, q F H _ (.refl sm) rep_bl⟩
  · cases ez
theorem cl_any (hc : X.calm = true) : CallR X (.builtin "any") (rC X.K Φ anyL) := by
  intro pins s σ H vs us Q I rv ⟨F, ds, z, sm, hv, ez, q⟩
  unfold anyL at ez
  split at ez
  · obtain ⟨bs, h1, rfl⟩ := Option.map_eq_some_iff.mp ez
    obtain ⟨v, rfl, r1⟩ := repsB1 hv
    obtain ⟨a, xs, rfl, h2, h3⟩ := r1.lst sm
    have := bools_vs h1 h3
    subst this
    exact cr_any hc pins s σ H _ us Q I rv ⟨a, bs, rfl, .of h2, q F H _ (.refl sm) rep_bl⟩
  · cases ez
theorem cl_sum (hc : X.calm = true) : CallR X (.builtin "sum") (rC X.K Φ sumL) := by
  intro pins s σ H vs us Q I rv ⟨F, ds, z, sm, hv, ez, q⟩
  unfold sumL at ez
  split at ez
  · obtain ⟨bs, h1, rfl⟩ := Option.map_eq_some_iff.mp ez
    obtain ⟨v, rfl, r1⟩ := repsB1 hv
    obtain ⟨a, xs, rfl, h2, h3⟩ := r1.lst sm
    have := ints_vs h1 h3
    subst this
    exact cr_sum hc pins s σ H _ us Q I rv ⟨a, bs, rfl, .of h2, q F H _ (.refl sm) rep_int⟩
  · cases ez
theorem cl_max2 (hc : X.calm = true) : CallR X (.builtin "max") (rC X.K Φ max2) := by
  intro pins s σ H vs us Q I rv ⟨F, ds, z, sm, hv, ez, q⟩
  unfold max2 at ez
  split at ez
  · cases ez
    obtain ⟨v, u, rfl, r1, r2⟩ := repsB2 hv
    exact call_max2 hc pins s σ H _ us Q I rv ⟨_, _, by rw [r1.int, r2.int], q F H _ (.refl sm) rep_int⟩
  · cases ez
theorem cl_min2 (hc : X.calm = true) : CallR X (.builtin "min") (rC X.K Φ min2) := by
  intro pins s σ H vs us Q I rv ⟨F, ds, z, sm, hv, ez, q⟩
  unfold min2 at ez
  split at ez
  · cases ez
    obtain ⟨v, u, rfl, r1, r2⟩ := repsB2 hv
    exact call_min2 hc pins s σ H _ us Q I rv ⟨_, _, by rw [r1.int, r2.int], q F H _ (.refl sm) rep_int⟩
  · cases ez
theorem cl_int1 : CallR X (.type "int") (rC X.K Φ int1) := by
  intro pins s σ H vs us Q I rv ⟨F, ds, z, sm, hv, ez, q⟩
  unfold int1 at ez
  split at ez
  · cases ez
    obtain ⟨v, rfl, r1⟩ := repsB1 hv
    exact call_int1 pins s σ H _ us Q I rv (.inl ⟨_, by rw [r1.int], q F H _ (.refl sm) rep_int⟩)
  · cases ez
theorem cl_list : CallR X (.type "list") (rCN X.K Φ listL) := by
  intro pins s σ H vs us Q I rv ⟨F, ds, z, sm, hv, ez, q⟩
  unfold listL at ez
  split at ez
  · cases ez
    obtain ⟨v, rfl, r1⟩ := repsB1 hv
    obtain ⟨a, xs, rfl, h2, h3⟩ := r1.lst sm
    exact call_list_of pins s σ H _ us Q I rv ⟨a, xs, rfl, .inl (.of h2), fun p np => q p _ np ⟨xs, rfl, h3⟩⟩
  · cases ez
    obtain ⟨v, rfl, r1⟩ := repsB1 hv
    obtain ⟨a, o, xs, rfl, g2, h2, t2, h3⟩ := r1.tup sm
    exact call_list_of pins s σ H _ us Q I rv ⟨a, xs, rfl, .inr (t2.sq h2), fun p np => q p _ np ⟨xs, rfl, h3⟩⟩
  · cases ez
theorem cl_tup : CallR X (.type "tuple") (rC X.K Φ tupL) := by
  intro pins s σ H vs us Q I rv ⟨F, ds, z, sm, hv, ez, q⟩
  unfold tupL at ez
  split at ez
  · cases ez
    obtain ⟨v, rfl, r1⟩ := repsB1 hv
    obtain ⟨a, xs, rfl, h2, h3⟩ := r1.lst sm
    refine call_tupleX pins s σ H _ us Q I rv ⟨a, xs, rfl, .inl ⟨.of h2, fun p o np tx => ?_⟩⟩
    have g := Gr.new (o := o) sm np
    exact q _ _ _ g (by unfold Rep; exact ⟨p, o, xs, rfl, upd_same, tx, h3.mono g.mono⟩)
  · cases ez
    obtain ⟨v, rfl, r1⟩ := repsB1 hv
    obtain ⟨a, o, xs, rfl, g2, h2, t2, h3⟩ := r1.tup sm
    exact call_tupleX pins s σ H _ us Q I rv ⟨a, xs, rfl, .inr ⟨t2.sq h2, q F H _ (.refl sm) (by unfold Rep; exact ⟨a, o, xs, rfl, g2, t2, h3⟩)⟩⟩
  · cases ez
theorem vals_get {xs : List V} {us : List Value} (r : Vals xs us) {i : Nat} {u : Value} (h : us[i]? = some u) : ∃ x, xs[i]? = some x ∧ RelV x u := by
  cases e : xs[i]? with
  | none => rw [r.none_of e] at h; cases h
  | some x =>
    obtain ⟨u', h1, h2⟩ := r.get e
    rw [h] at h1; cases h1
    exact ⟨x, rfl, h2⟩
theorem cl_min (hc : X.calm = true) (hu : X.A.units + 64 < cLine) : CallR X (.builtin "min") (rC X.K Φ minL) := by
  intro pins s σ H vs us Q I rv ⟨F, ds, z, sm, hv, ez, q⟩
  unfold minL at ez
  split at ez
  case h_1 x xs =>
    split at ez
    case isTrue hl =>
      cases ez
      rw [Bool.and_eq_true] at hl
      obtain ⟨v, rfl, r1⟩ := repsB1 hv
      have dp := repB_dp sm (n := 9) (by rw [pln_lst]; exact hl.1) r1
      obtain ⟨a, ys, rfl, h2, h3⟩ := r1.lst sm
      obtain ⟨u, rfl, ru⟩ := vals1 rv
      cases ru
      have hd := plns_plain 8 _ hl.1
      unfold toPy at dp
      obtain ⟨as, rds⟩ := Dp.reads I _ _ _ dp rfl
      cases rds with
      | list ho hcl hdat hr =>
        rename_i o n
        obtain ⟨its, rvs, ⟨o', n', e', c', _, d'⟩, _⟩ := I.list (.of h2)
        rw [ho] at e'; cases e'
        rw [hdat] at d'
        injection d' with d1 _
        subst d1
        rw [toPys] at hr
        refine PySem.W.min_list_data (I.ok.hd hc) ⟨_, ho, hcl, _, hdat⟩ hr (by have := likes_all hl.2; rw [toPys] at this; exact this) ?_ fun i v h' tk bs hv' rb kp => ?_
        · have := hd.2; rw [toPys] at this; omega
        · obtain ⟨y, hy, ry⟩ := vals_get rvs (by simpa using hv')
          obtain ⟨d, hd1, rd⟩ := h3.getV hy
          have I1 : Inv X pins σ H { s with heap := h', toks := tk } := I.kept kp
          have pd : pln 8 d = true := by
            have := hl.1
            rw [plns_all, List.all_eq_true] at this
            exact this d (List.mem_of_getElem? hd1)
          have pm : pln 8 (minF x xs) = true := by
            have := hl.1
            rw [plns_all, List.all_eq_true] at this
            exact this _ (minF_mem x xs)
          obtain ⟨as', rd'⟩ := Dp.reads I1 _ y v (rep_dp sm 8 d y pd rd) ry
          have e1 := PySem.SeqAt.plain_unique _ _ _ _ _ (pln_plain 8 d pd).1 rd' rb
          rw [← minF_py] at e1
          have e2 := toPy_inj 8 8 _ _ pd pm e1
          subst e2
          exact ⟨y, H, I1, ry, q F H _ (.refl sm) rd⟩
    · cases ez
  · cases ez
theorem cl_max (hc : X.calm = true) (hu : X.A.units + 64 < cLine) : CallR X (.builtin "max") (rC X.K Φ maxL) := by
  intro pins s σ H vs us Q I rv ⟨F, ds, z, sm, hv, ez, q⟩
  unfold maxL at ez
  split at ez
  case h_1 x xs =>
    split at ez
    case isTrue hl =>
      cases ez
      rw [Bool.and_eq_true] at hl
      obtain ⟨v, rfl, r1⟩ := repsB1 hv
      have dp := repB_dp sm (n := 9) (by rw [pln_lst]; exact hl.1) r1
      obtain ⟨a, ys, rfl, h2, h3⟩ := r1.lst sm
      obtain ⟨u, rfl, ru⟩ := vals1 rv
      cases ru
      have hd := plns_plain 8 _ hl.1
      unfold toPy at dp
      obtain ⟨as, rds⟩ := Dp.reads I _ _ _ dp rfl
      cases rds with
      | list ho hcl hdat hr =>
        rename_i o n
        obtain ⟨its, rvs, ⟨o', n', e', c', _, d'⟩, _⟩ := I.list (.of h2)
        rw [ho] at e'; cases e'
        rw [hdat] at d'
        injection d' with d1 _
        subst d1
        rw [toPys] at hr
        refine PySem.W.max_list_data (I.ok.hd hc) ⟨_, ho, hcl, _, hdat⟩ hr (by have := likes_all hl.2; rw [toPys] at this; exact this) ?_ fun i v h' tk bs hv' rb kp => ?_
        · have := hd.2; rw [toPys] at this; omega
        · obtain ⟨y, hy, ry⟩ := vals_get rvs (by simpa using hv')
          obtain ⟨d, hd1, rd⟩ := h3.getV hy
          have I1 : Inv X pins σ H { s with heap := h', toks := tk } := I.kept kp
          have pd : pln 8 d = true := by
            have := hl.1
            rw [plns_all, List.all_eq_true] at this
            exact this d (List.mem_of_getElem? hd1)
          have pm : pln 8 (maxF x xs) = true := by
            have := hl.1
            rw [plns_all, List.all_eq_true] at this
            exact this _ (maxF_mem x xs)
          obtain ⟨as', rd'⟩ := Dp.reads I1 _ y v (rep_dp sm 8 d y pd rd) ry
          have e1 := PySem.SeqAt.plain_unique _ _ _ _ _ (pln_plain 8 d pd).1 rd' rb
          rw [← maxF_py] at e1
          have e2 := toPy_inj 8 8 _ _ pd pm e1
          subst e2
          exact ⟨y, H, I1, ry, q F H _ (.refl sm) rd⟩
    · cases ez
  · cases ez
end
end Cut
namespace Cut
open PySem PySem.Spec L2
open PyProof.Rows hiding St

/-! ### slices -/
def cutL {α : Type} (xs : List α) (lo hi : Option Int) : List α := (xs.drop (HT.sIx xs.length 0 lo)).take (HT.sIx xs.length xs.length hi - HT.sIx xs.length 0 lo)
def slD : D → Option Int → Option Int → Option D
  | .str w, lo, hi => if w.length ≤ LN then some (.str (cutL w lo hi)) else none
  | .tup xs, lo, hi => some (.tup (cutL xs lo hi))
  | _, _, _ => none
def slN : D → Option Int → Option Int → Option D
  | .lst xs, lo, hi => some (.lst (cutL xs lo hi))
  | _, _, _ => none
theorem cut_reps {K : PySem.W.Frag} {F : Hp} {cc : Addr} {ds : List D} {vs : List V} (r : Reps K cc F ds vs) (lo hi : Option Int) : Reps K cc F (cutL ds lo hi) (cutV vs lo hi) := by
  unfold cutL cutV
  rw [r.len]
  exact (r.drop _).take _
theorem cut_str (w : Wd) (lo hi : Option Int) : cutS (S w) lo hi = S (cutL w lo hi) := by
  unfold cutS cutL
  rw [S_len, S_cps]
  rfl
def rSD (K : PySem.W.Frag) (Φ : Fx) (op : D → Option Int → Option Int → Option D) : V → Option Int → Option Int → Hp → VK → Prop := fun x lo hi H Q => ∃ F d z, Same F H ∧ RepB K Φ F H d x ∧ op d lo hi = some z ∧ ∀ F' H' v, Gr F H F' H' → Rep K Φ.cc F' z v → Q v H'
def rSN (K : PySem.W.Frag) (Φ : Fx) (op : D → Option Int → Option Int → Option D) : V → Option Int → Option Int → Hp → VK → Prop := fun x lo hi H Q => ∃ F d z, Same F H ∧ RepB K Φ F H d x ∧ op d lo hi = some z ∧ ∀ p o, H p = none → CellO K Φ.cc F o z → Q (.ref p) (upd H p o)
def tPo (K : PySem.W.Frag) (mg : Str → Option Value) (Φ : Fx) (W : WX) (f : DS → Rs (Option Int)) : TO := fun σ H Q => ∃ F s, Rel K Φ F σ H s ∧ Hold K mg Φ W F σ H s (f s) fun F' H' o _ => Q o H'
abbrev DO (X : Cx) (Φ : Fx) (W : WX) (e : Option Expr) (f : DS → Rs (Option Int)) : Prop := PO X e (tPo X.K X.mg Φ W f)
def noP : DS → Rs (Option Int) := fun s => .ok none s
def someP (f : DS → Rs D) : DS → Rs (Option Int) := fun s => (f s).bind fun d s => match d with
  | .int i => .ok (some i) s
  | _ => .bad
def slS (op : D → Option Int → Option Int → Option D) (f : DS → Rs D) (l u : DS → Rs (Option Int)) : DS → Rs D := fun s => (f s).bind fun d s => (l s).bind fun lo s => (u s).bind fun hi s => Rs.of (op d lo hi) s
section
variable {X : Cx} {Φ : Fx} {W : WX} {e : Expr} {lo hi : Option Expr} {f : DS → Rs D} {l u : DS → Rs (Option Int)} {pos p2 : Pos}
theorem PO.imp {X : Cx} {e : Option Expr} {t t' : TO} (h : PO X e t) (q : ∀ σ H Q, t' σ H Q → t σ H Q) : PO X e t' := ⟨fun pins s σ H Q I w => h.run pins s σ H Q I (q σ H Q w)⟩
theorem do_none : DO X Φ W none noP := PO.imp po_none fun σ H Q ⟨F, s, R, h⟩ => h F H R .refl
theorem do_some (h : DE X Φ W e f) : DO X Φ W (some e) (someP f) := PO.imp (po_some h) fun σ H Q ⟨F, s, R, q⟩ => ⟨F, s, R, (Hold.bind q).imp fun F1 H1 d s1 R1 e1 h1 v rv => by
  cases d with
  | int i => exact ⟨i, by unfold Rep at rv; exact rv, h1 F1 H1 R1 .refl⟩
  | _ => exact h1.elim⟩
theorem sl_D : SlR X (rSD X.K Φ slD) := by
  intro pins s σ H x v vl vu lo hi sl Q I rx hs pl pu ⟨F, d, z, sm, hx, ez, q⟩
  cases d with
  | str w =>
    unfold slD at ez
    dsimp only at ez
    split at ez
    case isTrue hl =>
      cases ez
      exact sl_str pins s σ H x v vl vu lo hi sl Q I rx hs pl pu ⟨S w, hx.str, by rw [S_len, ← LN_eq]; exact hl, by rw [cut_str]; exact q F H _ (.refl sm) rep_str⟩
    · cases ez
  | tup xs =>
    cases ez
    obtain ⟨a, o1, vs, rfl, g1, h1, t1, r1⟩ := hx.tup sm
    refine sl_tupX pins s σ H _ v vl vu lo hi sl Q I rx hs pl pu ⟨a, vs, rfl, t1.sq h1, fun hh => ?_, fun _ p o np tx => ?_⟩
    · have e : cutL xs lo hi = xs := by
        unfold cutL
        rw [← r1.len, hh.1, hh.2, r1.len]
        simp
      rw [e] at q
      exact q F H _ (.refl sm) (by unfold Rep; exact ⟨a, o1, vs, rfl, g1, t1, r1⟩)
    · have g := Gr.new (o := o) sm np
      exact q _ _ _ g (by unfold Rep; exact ⟨p, _, _, rfl, upd_same, tx, cut_reps (r1.mono g.mono) lo hi⟩)
  | _ => cases ez
theorem sl_N : SlR X (rSN X.K Φ slN) := by
  intro pins s σ H x v vl vu lo hi sl Q I rx hs pl pu ⟨F, d, z, sm, hx, ez, q⟩
  cases d with
  | lst xs =>
    cases ez
    obtain ⟨a, vs, rfl, h1, r1⟩ := hx.lst sm
    exact sl_list pins s σ H _ v vl vu lo hi sl Q I rx hs pl pu ⟨a, vs, rfl, .of h1, fun p np => q p _ np ⟨_, rfl, cut_reps r1 lo hi⟩⟩
  | _ => cases ez
theorem de_sl {op : D → Option Int → Option Int → Option D} (hr : SlR X (rSD X.K Φ op)) (he : DB X Φ W e f) (hl : DO X Φ W lo l) (hu : DO X Φ W hi u) : DE X Φ W (.Subscript e (.Slice lo hi none p2) pos) (slS op f l u) :=
  PE.imp (pe_slice hr he hl hu) fun σ H Q ⟨F, s, R, h⟩ => ⟨F, s, R, (Hold.bind h).imp fun F1 H1 d s1 R1 e1 h1 v rv => ⟨F1, s1, R1, (Hold.bind h1).imp fun F2 H2 a s2 R2 e2 h2 => ⟨F2, s2, R2, (Hold.bind h2).imp fun F3 H3 b s3 R3 e3 h3 => by
    obtain ⟨z, ez, h4⟩ := of_hold h3
    exact ⟨F3, d, z, R3.fh, (rv.est e2).est e3, ez, fun F' H' w g r => h4 F' H' (R3.gr g) g.est w r⟩⟩⟩⟩
theorem df_sl {op : D → Option Int → Option Int → Option D} (hr : SlR X (rSN X.K Φ op)) (he : DB X Φ W e f) (hl : DO X Φ W lo l) (hu : DO X Φ W hi u) : DF X Φ W (.Subscript e (.Slice lo hi none p2) pos) (slS op f l u) :=
  PE.imp (pe_slice hr he hl hu) fun σ H Q ⟨F, s, R, h⟩ => ⟨F, s, R, (Hold.bind h).imp fun F1 H1 d s1 R1 e1 h1 v rv => ⟨F1, s1, R1, (Hold.bind h1).imp fun F2 H2 a s2 R2 e2 h2 => ⟨F2, s2, R2, (Hold.bind h2).imp fun F3 H3 b s3 R3 e3 h3 => by
    obtain ⟨z, ez, h4⟩ := of_hold h3
    exact ⟨F3, d, z, R3.fh, (rv.est e2).est e3, ez, fun p o np c => h4 F3 H3 R3 .refl p o np c⟩⟩⟩⟩

/-! ### isinstance -/
inductive Ty where
  | str | int | bool | list | tuple
  deriving DecidableEq
def Ty.nm : Ty → String
  | .str => "str" | .int => "int" | .bool => "bool" | .list => "list" | .tuple => "tuple"
def isTy : Ty → D → Bool
  | .str, .str _ => true
  | .int, .int _ => true
  | .int, .bl _ => true
  | .bool, .bl _ => true
  | .list, .lst _ => true
  | .tuple, .tup _ => true
  | _, _ => false
def tyN : D → Option String
  | .non => some "NoneType"
  | .bl _ => some "bool"
  | .int _ => some "int"
  | .str _ => some "str"
  | .lst _ => some "list"
  | .tup _ => some "tuple"
  | .dct _ _ => some "dict"
  | .cod _ _ _ => none
def isiD (t : Ty) (d : D) : Option D := (tyN d).map fun _ => .bl (isTy t d)
theorem kit_isTy (t : Ty) (d : D) (n : String) (h : tyN d = some n) : kitB n t.nm = some (isTy t d) := by
  cases d <;> cases h <;> cases t <;> first | (show kitB _ _ = some true; decide +kernel) | (show kitB _ _ = some false; decide +kernel)
theorem tyx_of {K : PySem.W.Frag} {F H : Hp} {d : D} {v : V} {n : String} (sm : Same F H) (h : RepB K Φ F H d v) (e : tyN d = some n) : TyX K H v (.type n) := by
  cases d with
  | non => cases e; rw [h.non]; exact .base .non
  | bl b => cases e; rw [h.bl]; exact .base (.bl b)
  | int b => cases e; rw [h.int]; exact .base (.int b)
  | str b => cases e; rw [h.str]; exact .base (.str _)
  | lst _ => cases e; obtain ⟨a, vs, rfl, h1, _⟩ := h.lst sm; exact .base (.lst h1)
  | tup _ => cases e; obtain ⟨a, _, vs, rfl, _, h1, ⟨ob, _, _, rfl⟩, _⟩ := h.tup sm; exact .fTuple h1
  | dct _ _ =>
    cases e
    obtain ⟨a, o, vs, rfl, h1, h2, _⟩ := h.dct sm
    rcases h2 with ⟨kvs, rfl, _⟩ | ⟨kvs, rfl, _⟩
    · exact .base (.dK h1)
    · exact .base (.dT h1)
  | cod _ _ _ => cases e
def isiS (t : Ty) (f : DS → Rs D) : DS → Rs D := fun s => (f s).bind fun d s => Rs.of (isiD t d) s
theorem boot_isinstance : bootBuiltins "isinstance" = some (.builtin "isinstance") := by decide +kernel
theorem boot_ty (t : Ty) : bootBuiltins (Str.ofString t.nm) = some (.type t.nm) := by cases t <;> decide +kernel
theorem ty_ne (t : Ty) : Str.ofString t.nm ≠ "__name__" ∧ ((Str.ofString t.nm) == ("__debug__" : Str)) = false := by cases t <;> decide +kernel
/-- isinstance(e, T) -/
theorem de_isi {t : Ty} {p p3 : Pos} (hg : Gl X "isinstance") (hm : X.mg "isinstance" = none) (hg2 : Gl X (Str.ofString t.nm)) (hm2 : X.mg (Str.ofString t.nm) = none) (hs : starEach [e, .Name (Str.ofString t.nm) p3] X.env = (false, eval e X.env) :: starEach [.Name (Str.ofString t.nm) p3] X.env) (he : DB X Φ W e f) :
    DE X Φ W (.Call (.Name "isinstance" p) [e, .Name (Str.ofString t.nm) p3] [] pos) (isiS t f) :=
  PE.imp (pe_callB call_isi hg hm boot_isinstance (pa_cons he (pa_cons (pe_bltn hg2 hm2 (boot_ty t) (v := .ty t.nm) rfl (ty_ne t).1 (ty_ne t).2) pa_nil rfl) hs) (by decide) (by decide) hs rfl)
    fun σ H Q ⟨F, s, R, h⟩ => ⟨F, s, R, (Hold.bind h).imp fun F1 H1 d s1 R1 e1 h1 v rv => by
    obtain ⟨z, ez, h2⟩ := of_hold h1
    obtain ⟨n, hn, rfl⟩ := Option.map_eq_some_iff.mp ez
    exact ⟨v, .ty t.nm, .type n, .type t.nm, _, rfl, .ty _, tyx_of R1.fh rv hn, kit_ty (kit_isTy t d n hn), h2 F1 H1 R1 .refl _ rep_bl⟩⟩
/-- isinstance(e, (T1, T2)) -/
def isi2S (t u : Ty) (f : DS → Rs D) : DS → Rs D := fun s => (f s).bind fun d s => Rs.of ((tyN d).map fun _ => .bl (isTy t d || isTy u d)) s
theorem de_isi2 {t u : Ty} {p p3 p4 p5 : Pos} {k : Nat} (hg : Gl X "isinstance") (hm : X.mg "isinstance" = none) (hg2 : Gl X (Str.ofString t.nm)) (hm2 : X.mg (Str.ofString t.nm) = none) (hg3 : Gl X (Str.ofString u.nm)) (hm3 : X.mg (Str.ofString u.nm) = none)
    (hs : starEach [e, .Tuple [.Name (Str.ofString t.nm) p3, .Name (Str.ofString u.nm) p4] k p5] X.env = (false, eval e X.env) :: starEach [.Tuple [.Name (Str.ofString t.nm) p3, .Name (Str.ofString u.nm) p4] k p5] X.env) (he : DE X Φ W e f) :
    DE X Φ W (.Call (.Name "isinstance" p) [e, .Tuple [.Name (Str.ofString t.nm) p3, .Name (Str.ofString u.nm) p4] k p5] [] pos) (isi2S t u f) :=
  PE.imp (pe_callB call_isiT hg hm boot_isinstance (pa_cons he (pa_cons (pe_tup (pa_cons (pe_bltn hg2 hm2 (boot_ty t) (v := .ty t.nm) rfl (ty_ne t).1 (ty_ne t).2) (pa_cons (pe_bltn hg3 hm3 (boot_ty u) (v := .ty u.nm) rfl (ty_ne u).1 (ty_ne u).2) pa_nil rfl) rfl)) pa_nil rfl) hs) (by decide) (by decide) hs rfl)
    fun σ H Q ⟨F, s, R, h⟩ => ⟨F, s, R, (Hold.bind h).imp fun F1 H1 d s1 R1 e1 h1 v rv => by
    obtain ⟨z, ez, h2⟩ := of_hold h1
    obtain ⟨n, hn, rfl⟩ := Option.map_eq_some_iff.mp ez
    refine ⟨by show 2 ≤ sizeLine; decide, fun q nq => ?_⟩
    have g := Gr.new (o := .tup [.ty t.nm, .ty u.nm]) R1.fh nq
    have hb : PySem.W.kitAny X.K (.type n) [.type t.nm, .type u.nm] = some (isTy t d || isTy u d) := by
      cases ht : isTy t d with
      | true => exact kitAny_cons (kit_ty (kit_isTy t d n hn)) (fun z => by rw [ht] at z; cases z) (fun _ => rfl)
      | false => exact kitAny_cons (kit_ty (kit_isTy t d n hn)) (fun _ => kitAny_cons (kit_ty (kit_isTy u d n hn)) (fun z => by rw [z]; exact kitAny_nil) (fun z => by rw [z]; rfl)) (fun z => by rw [ht] at z; cases z)
    refine ⟨v, q, [.ty t.nm, .ty u.nm], .type n, [.type t.nm, .type u.nm], _, rfl, upd_same, .cons (.ty _) (.cons (.ty _) .nil), ?_, hb, h2 _ _ (R1.gr g) g.est _ rep_bl⟩
    exact tyx_of (g.fh) (.inl (Rep.mono g.mono _ _ rv)) hn⟩
end

end Cut
namespace Cut
open PySem PySem.Spec L2
open PyProof.Rows hiding St

/-! ### a call that reads own lists, its answer without parts -/
def flat : D → Bool
  | .non => true
  | .bl _ => true
  | .int _ => true
  | .str _ => true
  | _ => false
theorem flat_rep {K : PySem.W.Frag} {cc : Addr} {F F' : Hp} {d : D} {v : V} (h : flat d = true) (r : Rep K cc F d v) : Rep K cc F' d v := by
  cases d with
  | non => unfold Rep at r ⊢; exact r
  | bl _ => unfold Rep at r ⊢; exact r
  | int _ => unfold Rep at r ⊢; exact r
  | str _ => unfold Rep at r ⊢; exact r
  | _ => cases h
def callPB (f : PF) (n : Nat) (g : DS → Rs (List D)) : DS → Rs D := fun s => (g s).bind fun ds s => if ds.length = n then (match f ds with
  | .ok d => if flat d = true then .ok d s else .bad
  | _ => .bad) else .bad
def callSB (i : Nat) (f : SF) (n : Nat) (g : DS → Rs (List D)) : DS → Rs D := fun s => match s.env[i]? with
  | some (some .src) => (g s).bind fun ds s => if ds.length = n then (match f ds s.src with
    | .ok d sr => if flat d = true then .ok d { s with src := sr } else .bad
    | _ => .bad) else .bad
  | _ => .bad
theorem RepsB.len {K : PySem.W.Frag} {Φ : Fx} {F H : Hp} : ∀ {ds : List D} {vs : List V}, RepsB K Φ F H ds vs → vs.length = ds.length
  | [], _, h => by cases h; rfl
  | d :: ds, _, ⟨v, r, e, _, h⟩ => by subst e; simp [RepsB.len h]
/-- the frozen part and the own lists that are read -/
theorem brw {K : PySem.W.Frag} {Φ : Fx} {H : Hp} : ∀ {ds : List D} {vs : List V} {F : Hp}, Same F H → RepsB K Φ F H ds vs → ∃ F2, Same F F2 ∧ Same F2 H ∧ Reps K Φ.cc F2 ds vs ∧ ∀ a o, F2 a = some o → F a = some o ∨ Φ.not a
  | [], vs, F, sm, h => by
    cases h
    exact ⟨F, Same.refl _, sm, reps_nil.mpr rfl, fun a o e => .inl e⟩
  | d :: ds, vs, F, sm, ⟨v, r, e, h1, h2⟩ => by
    subst e
    obtain ⟨F2, g1, g2, g3, g4⟩ := brw sm h2
    rcases h1 with h1 | ⟨a, o, rfl, hn, ha, c⟩
    · exact ⟨F2, g1, g2, reps_cons.mpr ⟨_, _, rfl, Rep.mono g1 _ _ h1, g3⟩, g4⟩
    · have s3 : Same F2 (upd F2 a o) := fun b u e => by
        by_cases hb : b = a
        · subst hb; rw [g2 _ _ e] at ha; cases ha; exact upd_same
        · rw [upd_ne hb]; exact e
      refine ⟨upd F2 a o, g1.trans s3, fun b u e => ?_, reps_cons.mpr ⟨_, _, rfl, ?_, g3.mono s3⟩, fun b u e => ?_⟩
      · by_cases hb : b = a
        · subst hb; rw [upd_same] at e; cases e; exact ha
        · rw [upd_ne hb] at e; exact g2 _ _ e
      · cases d with
        | lst xs =>
          obtain ⟨us, rfl, q⟩ := c
          unfold Rep
          exact ⟨a, us, rfl, upd_same, q.mono (g1.trans s3)⟩
        | dct ks xs =>
          obtain ⟨us, q1, q⟩ := c
          unfold Rep
          exact ⟨a, o, us, rfl, upd_same, q1, q.mono (g1.trans s3)⟩
        | _ => exact c.elim
      · by_cases hb : b = a
        · subst hb; exact .inr hn
        · rw [upd_ne hb] at e; exact g4 _ _ e
section
variable {X : Cx} {Φ : Fx} {W : WX} {e : Expr} {es : List Expr} {g : DS → Rs (List D)} {pos : Pos} {k n : Nat}
theorem de_callB {x : Str} {fn : PF} {p : Pos} (G : GoodP X.prog X.w X.K X.mg X.base Φ.cc k x fn n) (hr : Room k X.A) (tk : Takes X W) (hg : Gl X x) (hdb : (x == ("__debug__" : Str)) = false)
    (he : starEach (e :: es) X.env = (false, eval e X.env) :: starEach es X.env) (hpl : (backTo pos (starEach es X.env)).any (·.1) = false) (ha : DAb X Φ W (e :: es) g) : DE X Φ W (.Call (.Name x p) (e :: es) [] pos) (callPB fn n g) := by
  obtain ⟨fa, fd, ps, hm, F, hk, hb⟩ := G.ex
  refine PE.imp (pe_callSD (E := WE W) F hr hg hm hk hb .nil (fun σ => passAt tk σ) ha hdb he hpl) fun σ H Q ⟨F, s, R, h⟩ => ⟨F, s, R, (Hold.bind h).imp fun F1 H1 ds s1 R1 e1 h1 vs rvs => ?_⟩
  split at h1
  case isTrue hl =>
    obtain ⟨F2, g1, g2, g3, g4⟩ := brw R1.fh rvs
    refine ⟨F2, ds, g2, by rw [List.append_nil]; exact g3, hl, ?_⟩
    cases hf : fn ds with
    | ok d =>
      rw [hf] at h1
      dsimp only at h1
      split at h1
      case isTrue hfl =>
        intro F3 H3 v gg rv
        have G3 : Gr F1 H1 F1 H3 := ⟨Same.refl _, gg.keep, fun b o q => gg.keep b o (R1.fh b o q), fun b o q => .inl q⟩
        exact h1 F1 H3 (R1.gr G3) G3.est v (flat_rep hfl rv)
      case isFalse => exact h1.elim
    | exc xx => rw [hf] at h1; exact h1.elim
    | bad => rw [hf] at h1; exact h1.elim
  · exact h1.elim
theorem pa_srcB {i : Nat} {x : Str} {p : Pos} (hs : starEach (.Name x p :: es) X.env = (false, eval (.Name x p) X.env) :: starEach es X.env) (hN : X.N[i]? = some x) (hv : Vis X.env.scope x) (hd : (x == ("__debug__" : Str)) = false) (hcd : (x == ("__classdict__" : Str)) = false) (hr : DAb X Φ W es g) :
    PA X (.Name x p :: es) (fun σ H Q => ∃ F s, Rel X.K Φ F σ H s ∧ s.env[i]? = some (some .src) ∧ Hold X.K X.mg Φ W F σ H s (g s) fun F' H' ds _ => ∀ vs, RepsB X.K Φ F' H' ds vs → Q (.ref Φ.sa :: vs) H') :=
  PA.imp (pa_cons (pe_var hN hv hd hcd) hr hs) fun σ H Q ⟨F, s, R, e, h⟩ => by
    obtain ⟨v, e1, h1, rfl⟩ := R.env i _ e
    exact ⟨_, e1, F, s, R, h.imp fun F' H' ds s' R' e' q vs r => q vs r⟩
theorem de_callSB {i : Nat} {x y : Str} {fn : SF} {p q : Pos} (G : GoodS X.prog X.w X.K X.mg X.base Φ.cc k x fn n) (hr : Room k X.A) (tk : Takes X W) (hg : Gl X x) (hdb : (x == ("__debug__" : Str)) = false)
    (hN : X.N[i]? = some y) (hv : Vis X.env.scope y) (hd : (y == ("__debug__" : Str)) = false) (hcd : (y == ("__classdict__" : Str)) = false)
    (he : starEach (.Name y q :: es) X.env = (false, eval (.Name y q) X.env) :: starEach es X.env) (hpl : (backTo pos (starEach es X.env)).any (·.1) = false) (ha : DAb X Φ W es g) : DE X Φ W (.Call (.Name x p) (.Name y q :: es) [] pos) (callSB i fn n g) := by
  obtain ⟨fa, fd, ps, hm, F, hk, hb⟩ := G.ex
  refine PE.imp (pe_callSD (E := WE W) F hr hg hm hk hb .nil (fun σ => passAt tk σ) (pa_srcB he hN hv hd hcd ha) hdb he hpl) fun σ H Q ⟨F, s, R, h⟩ => ⟨F, s, R, ?_⟩
  unfold callSB at h
  split at h
  case h_2 => exact h.elim
  case h_1 e =>
    have hs : Φ.hs = true := let ⟨v, e1, h1, _⟩ := R.env i _ e; h1
    refine ⟨e, (Hold.bind h).imp fun F1 H1 ds s1 R1 e1 h1 vs rvs => ?_⟩
    split at h1
    case isTrue hl =>
      have sf := R1.srcF hs
      obtain ⟨F2, g1, g2, g3, g4⟩ := brw R1.fh rvs
      have nf : ∀ b, F1 b = none → ¬ Φ.not b → F2 b = none := fun b z hn => by
        cases y : F2 b with
        | none => rfl
        | some o => rcases g4 b o y with y | y
                    · rw [z] at y; cases y
                    · exact absurd y hn
      refine ⟨F2, ds, Φ.sa, Φ.sb, s1.src, vs, by rw [List.append_nil], g2, nf _ sf.1 (fun z => (z hs).1 rfl), nf _ sf.2 (fun z => (z hs).2 rfl), R1.srcH hs, g3, hl, ?_⟩
      cases hf : fn ds s1.src with
      | ok d sr =>
        rw [hf] at h1
        dsimp only at h1
        split at h1
        case isTrue hfl =>
          intro F3 H3 v gg sx rv
          have G3 : GrS Φ.sa Φ.sb F1 H1 F1 H3 := ⟨Same.refl _, gg.keep, fun b o q => gg.keep b o (fun z => by subst z; rw [sf.1] at q; cases q) (fun z => by subst z; rw [sf.2] at q; cases q) (R1.fh b o q), fun b o q => .inl q⟩
          obtain ⟨R2, e2⟩ := R1.grS hs G3 sx
          exact h1 F1 H3 R2 e2 v (flat_rep hfl rv)
        case isFalse => exact h1.elim
      | exc xx sr => rw [hf] at h1; exact h1.elim
      | bad => rw [hf] at h1; exact h1.elim
    · exact h1.elim
end
end Cut
namespace Cut
open PySem PySem.Spec L2
open PyProof.Rows hiding St

/-! ### codes: their fields -/
structure CodC (K : PySem.W.Frag) (C : Addr) : Prop where
  cl : Cls K C
  nm : NoAttr K C "many"
  nz : NoAttr K C "size"
  nr : NoAttr K C "rows"
inductive Fl where | many | size | rows deriving DecidableEq
def Fl.nm : Fl → Str | .many => "many" | .size => "size" | .rows => "rows"
def Fl.f : Fl → D → Option D
  | .many, .cod l _ _ => some (.int l)
  | .size, .cod _ n _ => some (.int n)
  | .rows, .cod _ _ ws => some (.tup (ws.map .str))
  | _, _ => none
def notCall0 : Expr → Bool
  | .Call _ _ _ _ => false
  | _ => true
theorem abase {e : Expr} (h : notCall0 e = true) (f : Str) (env : Env) : attributeBase e f env (eval e env) = eval e env := by
  cases e <;> first | rfl | cases h
def fldS (f : Fl) (g : DS → Rs D) : DS → Rs D := fun s => (g s).bind fun d s => Rs.of (f.f d) s
section
variable {X : Cx} {Φ : Fx} {W : WX} {e : Expr} {es : List Expr} {g : DS → Rs D} {pos : Pos}
theorem Hold.of {K : PySem.W.Frag} {mg : Str → Option Value} {F : Hp} {σ : St} {H : Hp} {s : DS} {α : Type} {o : Option α} {P : Hp → Hp → α → DS → Prop} (R : Rel K Φ F σ H s) (h : Hold K mg Φ W F σ H s (Rs.of o s) P) : ∃ z, o = some z ∧ P F H z s := by
  cases o with
  | none => exact h.elim
  | some z => exact ⟨z, rfl, h F H R ESt.refl⟩
theorem de_fld (C : CodC X.K Φ.cc) (f : Fl) (he : DB X Φ W e g) (hc : notCall0 e = true) : DE X Φ W (.Attribute e f.nm pos) (fldS f g) :=
  PE.imp (pe_fld he (abase hc _ _)) fun σ H Q ⟨F, s, R, h⟩ => ⟨F, s, R, (Hold.bind h).imp fun F1 H1 d s1 R1 e1 h1 v rv => by
    obtain ⟨z, ez, q⟩ := Hold.of R1 h1
    cases d with
    | cod l n ws =>
      obtain ⟨a, rfl, ⟨dx, fs, p, c1, c2, c3, c4, ⟨o5, c5, t5⟩, c6⟩⟩ := rv.cod
      cases f with
      | many => cases ez; exact ⟨a, Φ.cc, dx, fs, .int l, rfl, R1.fh _ _ c1, C.cl, C.nm, c2, q _ rep_int⟩
      | size => cases ez; exact ⟨a, Φ.cc, dx, fs, .int n, rfl, R1.fh _ _ c1, C.cl, C.nz, c3, q _ rep_int⟩
      | rows => cases ez; exact ⟨a, Φ.cc, dx, fs, .ref p, rfl, R1.fh _ _ c1, C.cl, C.nr, c4, q _ (by unfold Rep; exact ⟨p, _, _, rfl, c5, t5, reps_strs⟩)⟩
    | _ => cases f <;> cases ez⟩
end

/-! #### a property -/
structure GoodPr (P : Program) (w : World) (K : PySem.W.Frag) (mg : Str → Option Value) (base : Heap) (cc : Addr) (k : Nat) (x : Str) (f : Fl) : Prop where
  ex : ∃ p g fd, PropOf K cc x p g ∧ FnOk P w K mg base CX0 k g fd ["self"] (getSp cc f.nm) ∧ Binds K fd ["self"] []
theorem GoodPr.up {P : Program} {w : World} {K : PySem.W.Frag} {mg : Str → Option Value} {base : Heap} {cc : Addr} {j k : Nat} {x : Str} {f : Fl} (g : GoodPr P w K mg base cc j x f) (h : j ≤ k) : GoodPr P w K mg base cc k x f :=
  ⟨let ⟨a, b, c, h1, h2, h3⟩ := g.ex; ⟨a, b, c, h1, h2.mono h, h3⟩⟩
section
variable {X : Cx} {Φ : Fx} {W : WX} {e : Expr} {g : DS → Rs D} {pos : Pos} {k : Nat}
theorem de_prop {x : Str} {f : Fl} (C : CodC X.K Φ.cc) (Gp : GoodPr X.prog X.w X.K X.mg X.base Φ.cc k x f) (hr : Room (k + 1) X.A) (he : DB X Φ W e g) (hc : notCall0 e = true) : DE X Φ W (.Attribute e x pos) (fldS f g) := by
  obtain ⟨p, gf, fd, hp, F, hb⟩ := Gp.ex
  refine PE.imp (pe_prop (E := fun _ _ _ => False) he C.cl hp F hr hb .nil pass0 (abase hc _ _)) fun σ H Q ⟨F, s, R, h⟩ => ⟨F, s, R, (Hold.bind h).imp fun F1 H1 d s1 R1 e1 h1 v rv => ?_⟩
  obtain ⟨z, ez, q⟩ := Hold.of R1 h1
  cases d with
  | cod l n ws =>
    obtain ⟨a, rfl, ⟨dx, fs, p, c1, c2, c3, c4, ⟨o5, c5, t5⟩, c6⟩⟩ := rv.cod
    cases f with
    | many => cases ez; exact ⟨a, dx, fs, rfl, R1.fh _ _ c1, a, dx, fs, _, rfl, R1.fh _ _ c1, c2, q _ rep_int⟩
    | size => cases ez; exact ⟨a, dx, fs, rfl, R1.fh _ _ c1, a, dx, fs, _, rfl, R1.fh _ _ c1, c3, q _ rep_int⟩
    | rows => cases ez; exact ⟨a, dx, fs, rfl, R1.fh _ _ c1, a, dx, fs, _, rfl, R1.fh _ _ c1, c4, q _ (by unfold Rep; exact ⟨p, _, _, rfl, c5, t5, reps_strs⟩)⟩
  | _ => cases f <;> cases ez
end

/-! ### codes: made -/
structure GrI (x : Addr) (F H F' H' : Hp) : Prop where
  mono : Same F F'
  keep : ∀ b o, b ≠ x → H b = some o → H' b = some o
  fh : Same F' H'
  born : ∀ b o, F' b = some o → F b = some o ∨ H b = none ∨ b = x
def spI (mg : Str → Option Value) (K : PySem.W.Frag) (cc : Addr) (f : PF) (n : Nat) : Sp := fun vs H Q E => ∃ F ds x dx us, vs = .ref x :: us ∧ Same F H ∧ F x = none ∧ H x = some (.ins cc dx []) ∧ Reps K cc F ds us ∧ ds.length = n ∧ match f ds with
  | .ok d => ∀ F' H', GrI x F H F' H' → Rep K cc F' d (.ref x) → Q .non H'
  | .exc xc => ∀ F' H' cls od, Gr F H F' H' → XRel mg K cc F' H' xc cls od → E cls od H'
  | .bad => False
structure GoodM (P : Program) (w : World) (K : PySem.W.Frag) (mg : Str → Option Value) (base : Heap) (cc : Addr) (k : Nat) (x : Str) (f : PF) (n : Nat) : Prop where
  ex : ∃ fi fd ps, mg x = some (.ref cc) ∧ Mk K cc fi ∧ FnOk P w K mg base (L2.CX P w) k fi fd ps (spI mg K cc f n) ∧ Binds K fd ps []
theorem GoodM.up {P : Program} {w : World} {K : PySem.W.Frag} {mg : Str → Option Value} {base : Heap} {cc : Addr} {j k : Nat} {x : Str} {f : PF} {n : Nat} (g : GoodM P w K mg base cc j x f n) (h : j ≤ k) : GoodM P w K mg base cc k x f n :=
  ⟨let ⟨fa, fd, ps, h1, h2, h3, h4⟩ := g.ex; ⟨fa, fd, ps, h1, h2, h3.mono h, h4⟩⟩
section
variable {X : Cx} {CX : CXT} {k : Nat} {f C : Addr} {fd : FuncData} {ps : List Str} {sp : Sp} {dvs : List V} {ds : List Value} {E : St → XK} {x : Str} {p pos : Pos} {e : Expr} {es : List Expr} {t : TA}
theorem run_makeSD {pins : List (Addr × Obj)} {σ : St} {H : Hp} {s : Shared} {Q : VK} {us : List Value} {vs : List V} (M : Mk X.K C f) (F : FnOk X.prog X.w X.K X.mg X.base CX k f fd ps sp) (hr : Room (k + 1) X.A) (hb : Binds X.K fd ps ds) (hd : Vals dvs ds)
    (hx : PassesAt CX X σ (E σ)) (I : Inv X pins σ H s) (r : Vals vs us)
    (h : ∀ x dx, H x = none → H dx = none → dx ≠ x → sp (.ref x :: (vs ++ dvs)) (upd (upd H dx (.own x)) x (.ins C dx [])) (fun v H2 => v = .non ∧ Q (.ref x) H2) (E σ)) :
    wpAny (model X.prog X.w) X.A (call (.ref C) us) (EP X pins σ Q) X.xe s := by
  have hq := h (s.heap.objs.size + 1) s.heap.objs.size (I.hok.fresh (Nat.le_succ _)) (I.hok.fresh (Nat.le_refl _)) (Nat.ne_of_lt (Nat.lt_succ_self _))
  have I2 := Inv.made (C := C) I
  have r2 : Vals (V.ref (s.heap.objs.size + 1) :: (vs ++ dvs)) (Value.ref (s.heap.objs.size + 1) :: (us ++ ds)) := .cons rfl (r.append hd)
  have hl : (Value.ref (s.heap.objs.size + 1) :: us ++ ds).length = ps.length := by
    have e := r2.length
    rw [F.len _ _ _ _ hq] at e
    exact e.symm
  refine wpAny_call (make_map (f := f) I.kIn M.makes M.init (beq_iff_eq.mp M.fn) (codeAny_mono (F.run _ X.stack _ _ ⟨Value.ref (s.heap.objs.size + 1) :: us, []⟩ (Value.ref (s.heap.objs.size + 1) :: (us ++ ds)) _ _ (E σ) (hr.make C us [])
    (I2.env0.make C us []) (hb _ (Value.ref (s.heap.objs.size + 1) :: us) I2.kIn hl) r2 hq) fun r s' hq' => ?_))
  cases r with
  | error e => exact hx pins _ _ e s' I2 hq'
  | ok fl =>
    cases fl with
    | ret u =>
      obtain ⟨v, H', I3, rv, ev, q3⟩ := I2.after hq'
      subst ev
      exact ⟨rv, ⟨V.ref (s.heap.objs.size + 1), H', I3, rfl, q3⟩⟩
    | next => exact False.elim hq'
    | brk => exact False.elim hq'
    | cont => exact False.elim hq'
def tMakeSD (C : Addr) (sp : Sp) (dvs : List V) (E : St → XK) (t : TA) : TE := fun σ H Q => t σ H fun vs H1 => ∀ x dx, H1 x = none → H1 dx = none → dx ≠ x → sp (.ref x :: (vs ++ dvs)) (upd (upd H1 dx (.own x)) x (.ins C dx [])) (fun v H2 => v = .non ∧ Q (.ref x) H2) (E σ)
theorem pe_makeSD (M : Mk X.K C f) (F : FnOk X.prog X.w X.K X.mg X.base CX k f fd ps sp) (hr : Room (k + 1) X.A) (hg : Gl X x) (hm : X.mg x = some (.ref C)) (hb : Binds X.K fd ps ds) (hd : Vals dvs ds) (hx : ∀ σ, PassesAt CX X σ (E σ))
    (ha : PA X (e :: es) t) (hdb : (x == ("__debug__" : Str)) = false := by decide) (he : starEach (e :: es) X.env = (false, eval e X.env) :: starEach es X.env := by rfl) (hpl : (backTo pos (starEach es X.env)).any (·.1) = false := by rfl) :
    PE X (.Call (.Name x p) (e :: es) [] pos) (tMakeSD C sp dvs E t) := by
  refine ⟨fun pins s σ H Q I h => ?_⟩
  refine wpAny_Call_Name_kw (ld_glob I hg hm ?_ hdb)
  refine PySem.W.callWith_K (h₀ := X.base) I.ok.mod.kin M.kp (thn (ha.run pos pins s σ H _ I h) fun us s1 ⟨vs, H1, I1, r, q⟩ => ⟨I1.kIn, ?_⟩) he hpl
  exact run_makeSD M F hr hb hd (hx σ) I1 r q
end
section
variable {X : Cx} {Φ : Fx} {W : WX} {e : Expr} {es : List Expr} {g : DS → Rs (List D)} {pos : Pos} {k n : Nat}
theorem de_mk {x : Str} {fn : PF} {p : Pos} (G : GoodM X.prog X.w X.K X.mg X.base Φ.cc k x fn n) (hr : Room (k + 1) X.A) (tk : Takes X W) (hg : Gl X x) (hdb : (x == ("__debug__" : Str)) = false)
    (he : starEach (e :: es) X.env = (false, eval e X.env) :: starEach es X.env) (hpl : (backTo pos (starEach es X.env)).any (·.1) = false) (ha : DA X Φ W (e :: es) g) : DE X Φ W (.Call (.Name x p) (e :: es) [] pos) (callP fn n g) := by
  obtain ⟨fa, fd, ps, hm, M, F, hb⟩ := G.ex
  refine PE.imp (pe_makeSD (E := WE W) M F hr hg hm hb .nil (fun σ => passAt tk σ) ha hdb he hpl) fun σ H Q ⟨F, s, R, h⟩ => ⟨F, s, R, (Hold.bind h).imp fun F1 H1 ds s1 R1 e1 h1 vs rvs x dx nx ndx ne => ?_⟩
  split at h1
  case isTrue hl =>
    have sm1 : Same H1 (upd (upd H1 dx (.own x)) x (.ins Φ.cc dx [])) := fun b o q => by
      rw [upd_ne (ne_of_none q nx), upd_ne (ne_of_none q ndx)]; exact q
    refine ⟨F1, ds, x, dx, vs, by rw [List.append_nil], R1.fh.trans sm1, R1.fh.free nx, upd_same, rvs, hl, ?_⟩
    have hn : ∀ {b}, (upd (upd H1 dx (.own x)) x (.ins Φ.cc dx [])) b = none → H1 b = none := fun {b} q => by
      cases z : H1 b with
      | none => rfl
      | some o => rw [sm1 _ _ z] at q; cases q
    cases hf : fn ds with
    | ok d =>
      rw [hf] at h1
      intro F2 H2 g rv
      refine ⟨rfl, ?_⟩
      have G2 : Gr F1 H1 F2 H2 := ⟨g.mono, fun b o q => g.keep b o (ne_of_none q nx) (sm1 _ _ q), g.fh, fun b o q => by
        rcases g.born b o q with z | z | z
        · exact .inl z
        · exact .inr (hn z)
        · subst z; exact .inr nx⟩
      exact h1 F2 H2 (R1.gr G2) G2.est _ rv
    | exc xx =>
      rw [hf] at h1
      intro F2 H2 cls od g x
      have G2 : Gr F1 H1 F2 H2 := ⟨g.mono, fun b o q => g.keep b o (sm1 _ _ q), g.fh, fun b o q => (g.born b o q).imp id hn⟩
      exact h1 F2 H2 cls od (R1.gr G2) G2.mono x
    | bad => rw [hf] at h1; exact h1.elim
  · exact h1.elim
end
end Cut
namespace Cut
open PySem PySem.Spec L2
open PyProof.Rows hiding St
/-! ### enumerate from a start, over a text, a tuple, a list -/



def Ixg (ok : Hp → Prop) (k0 : Int) (xs : List V) : It :=
  ⟨fun i H => ok H ∧ i < xs.length, fun i H v H' => ∃ T x, v = .ref T ∧ H T = none ∧ xs[i]? = some x ∧ ∃ o, TX o [.int (k0 + (i : Nat)), x] ∧ H' = upd H T o, fun i H => ok H ∧ i = xs.length⟩
def signs (x : Str) : List V := x.cps.toList.map fun c => V.str ⟨#[c]⟩
theorem turn_enumS {P : Program} {w : World} {K : PySem.W.Frag} {elts : List Expr} {kk : Nat} {tpos : Pos} (k0 : Int) (x : Str) (t : Tok) (e it : Addr) :
    Turn P w K (.Tuple elts kk tpos) (Ixg (fun _ => True) k0 (signs x)) [e, it] e (fun i h => (∃ old, IsEnum h e it (k0 + (i : Nat)) old) ∧ h.IsStrIter it (strIterType x) x t i ∧ e ≠ it) where
  mem := by simp
  obj := fun i h st b hb => by
    obtain ⟨⟨old, he⟩, ⟨o, hi, hc, hd⟩, _⟩ := st
    have e' : b = e ∨ b = it := by simpa using hb
    rcases e' with z | z
    · rw [z]; exact ⟨_, he, fun v q => nomatch q⟩
    · rw [z]; exact ⟨o, hi, fun v q => by rw [hd] at q; cases q⟩
  keep := fun i h h' st k => let ⟨⟨old, he⟩, ⟨o, hi, r⟩, hne⟩ := st; ⟨⟨old, k e (by simp) _ he⟩, ⟨o, k it (by simp) _ hi, r⟩, hne⟩
  item := by
    intro X hP hw hK hc i pins s σ H E I hf st hg
    subst hP hw hK
    obtain ⟨⟨old, he⟩, hit, hne⟩ := st
    have hg : i < x.cps.size := by have := hg.2; simpa [signs] using this
    have hel : e < s.heap.objs.size := Heap.lt_size he
    have hil : it < s.heap.objs.size := by obtain ⟨o, q, _⟩ := hit; exact Heap.lt_size q
    refine wpAny_pyNext_enum_itemC (Draws.text (A := X.A.in1) (I.ok.hd hc) it x t) he hit hg hne (by simpa using hne) fun v h' tk hv ho hit' hT hsz hk => ?_
    obtain ⟨c, u, hx, rfl⟩ := hv
    refine ⟨_, rfl, wpAny_letOwnedTupleGo_enum (s := { s with heap := h', toks := tk + 1 }) ho fun h'' he' sb => ?_⟩
    have hT2 : h''.get? s.heap.objs.size = some { cls := .type "tuple", data := .seq #[.int (k0 + (i : Nat)) tk, .str ⟨#[c]⟩ u] } := (sb.2 _ (Nat.ne_of_gt hel)).trans hT
    have new : ObjOk X.prog X.w (upd H s.heap.objs.size (.frz (tobj [.int (k0 + (i : Nat)) tk, .str ⟨#[c]⟩ u]) (.tup [.int (k0 + (i : Nat)), .str ⟨#[c]⟩]))) h'' s.heap.objs.size (.frz (tobj [.int (k0 + (i : Nat)) tk, .str ⟨#[c]⟩ u]) (.tup [.int (k0 + (i : Nat)), .str ⟨#[c]⟩])) :=
      ⟨hT2, by show 2 ≤ sizeLine; decide, [.int (k0 + (i : Nat)) tk, .str ⟨#[c]⟩ u], .cons ⟨_, rfl⟩ (.cons ⟨_, rfl⟩ .nil), ⟨_, hT2, rfl, _, rfl⟩⟩
    have I1 : Inv X pins σ (upd H s.heap.objs.size (.frz (tobj [.int (k0 + (i : Nat)) tk, .str ⟨#[c]⟩ u]) (.tup [.int (k0 + (i : Nat)), .str ⟨#[c]⟩]))) { s with heap := h'', toks := tk + 1 } :=
      I.turnedNew (ch := [e, it]) (fun b ob hb q => (sb.2 b (fun z => hb (by simp [z]))).trans (hk b ob (fun z => hb (by simp [z])) (fun z => hb (by simp [z])) q)) hf (Nat.le_refl _) new
    refine ⟨.ref s.heap.objs.size, _, I1, rfl, ⟨_, V.str ⟨#[c]⟩, rfl, I.hok.fresh (Nat.le_refl _), ?_, _, ⟨_, rfl, rfl, rfl⟩, rfl⟩, ⟨⟨.str ⟨#[c]⟩ u, ?_⟩, (let ⟨o, q, r⟩ := hit'; ⟨o, (sb.2 it (Ne.symm hne)).trans q, r⟩), hne⟩, fun b hb => ?_⟩
    · unfold signs
      rw [List.getElem?_map, Array.getElem?_toList, hx]; rfl
    · have e1 : (k0 + ((i + 1 : Nat) : Int)) = (k0 + (i : Nat)) + 1 := by omega
      rw [e1]; exact he'
    · have hb' : b < s.heap.objs.size := by
        have e' : b = e ∨ b = it := by simpa using hb
        rcases e' with z | z
        · rw [z]; exact hel
        · rw [z]; exact hil
      rw [upd_ne (Nat.ne_of_lt hb')]
      exact (hf b hb).1
  done := by
    intro X hP hw hK hc i pins s σ H E I hf st hg
    subst hP hw hK
    obtain ⟨⟨old, he⟩, hit, hne⟩ := st
    have hg : i = x.cps.size := by have := hg.2; simpa [signs] using this
    subst hg
    obtain ⟨f0, f1, f2, f3, f4, f5⟩ := hf it (by simp)
    exact wpAny_pyNext_enum_endD (Draws.text (A := X.A.in1) (I.ok.hd hc) it x t) he hit fun h' eb => ⟨rfl, I.turned (t' := s.toks) (fun b o hb q => eb b o hb q) f0 f1 f3 f4 f5⟩
  self := fun A i s Q E st h => let ⟨⟨_, he⟩, _⟩ := st; wpAny_pyIter_enum he h

theorem turn_enumT {P : Program} {w : World} {K : PySem.W.Frag} {elts : List Expr} {kk : Nat} {tpos : Pos} (k0 : Int) (a : Addr) (xs : List V) (e it : Addr) :
    Turn P w K (.Tuple elts kk tpos) (Ixg (fun H => SqT K H a xs) k0 xs) [e, it] e (fun i h => (∃ old, IsEnum h e it (k0 + (i : Nat)) old) ∧ h.IsTupleIter it a i ∧ e ≠ it ∧ a ≠ e ∧ a ≠ it) where
  mem := by simp
  obj := fun i h st b hb => by
    obtain ⟨⟨old, he⟩, ⟨o, ho, hc, hd⟩, _⟩ := st
    have e' : b = e ∨ b = it := by simpa using hb
    rcases e' with z | z
    · rw [z]; exact ⟨_, he, fun v q => nomatch q⟩
    · rw [z]; exact ⟨o, ho, fun v q => by rw [hd] at q; cases q⟩
  keep := fun i h h' st k => let ⟨⟨old, he⟩, hi, hne⟩ := st; ⟨⟨old, k e (by simp) _ he⟩, hi.at fun o q => k it (by simp) o q, hne⟩
  item := by
    intro X hP hw hK hc i pins s σ H E I hf st hg
    subst hP hw hK
    obtain ⟨⟨old, he⟩, hit, hne, ae, ai⟩ := st
    obtain ⟨hq, hi⟩ := hg
    obtain ⟨its, rv, p, hz⟩ := I.tuple hq
    have hel : e < s.heap.objs.size := Heap.lt_size he
    have hil : it < s.heap.objs.size := by obtain ⟨_, q, _⟩ := hit; exact Heap.lt_size q
    refine wpAny_pyNext_enum_itemC (Draws.tuple (A := X.A.in1) (I.ok.hd hc) it a ai its.toArray) he ⟨hit, p⟩ (i := i) (by rw [List.size_toArray, ← rv.length]; exact hi) hne (by simp [hne, Ne.symm ae]) fun u h' tk hu ho hit' hT hsz hk => ?_
    obtain ⟨x, hx, ru⟩ : ∃ x, xs[i]? = some x ∧ RelV x u := by
      obtain ⟨y, hy⟩ : ∃ y, xs[i]? = some y := ⟨_, List.getElem?_eq_getElem hi⟩
      obtain ⟨u', hu', ru⟩ := rv.get hy
      have : some u' = some u := by rw [← hu', ← hu]; simp
      cases this
      exact ⟨y, hy, ru⟩
    refine ⟨_, rfl, wpAny_letOwnedTupleGo_enum (s := { s with heap := h', toks := tk + 1 }) ho fun h'' he' sb => ?_⟩
    have hT2 : h''.get? s.heap.objs.size = some { cls := .type "tuple", data := .seq #[.int (k0 + (i : Nat)) tk, u] } := (sb.2 _ (Nat.ne_of_gt hel)).trans hT
    have new : ObjOk X.prog X.w (upd H s.heap.objs.size (.frz (tobj [.int (k0 + (i : Nat)) tk, u]) (.tup [.int (k0 + (i : Nat)), x]))) h'' s.heap.objs.size (.frz (tobj [.int (k0 + (i : Nat)) tk, u]) (.tup [.int (k0 + (i : Nat)), x])) :=
      ⟨hT2, by show 2 ≤ sizeLine; decide, [.int (k0 + (i : Nat)) tk, u], .cons ⟨_, rfl⟩ (.cons ru .nil), ⟨_, hT2, rfl, _, rfl⟩⟩
    have I1 : Inv X pins σ (upd H s.heap.objs.size (.frz (tobj [.int (k0 + (i : Nat)) tk, u]) (.tup [.int (k0 + (i : Nat)), x]))) { s with heap := h'', toks := tk + 1 } :=
      I.turnedNew (ch := [e, it]) (fun b ob hb q => (sb.2 b (fun z => hb (by simp [z]))).trans (hk b ob (fun z => hb (by simp [z])) (fun z => hb (by simp [z])) q)) hf (Nat.le_refl _) new
    refine ⟨.ref s.heap.objs.size, _, I1, rfl, ⟨_, x, rfl, I.hok.fresh (Nat.le_refl _), hx, _, ⟨_, rfl, rfl, rfl⟩, rfl⟩, ⟨⟨u, ?_⟩, hit'.1.at fun o q => (sb.2 it (Ne.symm hne)).trans q, hne, ae, ai⟩, fun b hb => ?_⟩
    · have e1 : (k0 + ((i + 1 : Nat) : Int)) = (k0 + (i : Nat)) + 1 := by omega
      rw [e1]; exact he'
    · have hb' : b < s.heap.objs.size := by
        have e' : b = e ∨ b = it := by simpa using hb
        rcases e' with z | z
        · rw [z]; exact hel
        · rw [z]; exact hil
      rw [upd_ne (Nat.ne_of_lt hb')]
      exact (hf b hb).1
  done := by
    intro X hP hw hK hc i pins s σ H E I hf st hg
    subst hP hw hK
    obtain ⟨⟨old, he⟩, hit, hne, ae, ai⟩ := st
    obtain ⟨hq, rfl⟩ := hg
    obtain ⟨its, rv, p, hz⟩ := I.tuple hq
    obtain ⟨f0, f1, f2, f3, f4, f5⟩ := hf it (by simp)
    exact wpAny_pyNext_enum_endD (Draws.tuple (A := X.A.in1) (I.ok.hd hc) it a ai its.toArray) he ⟨by simpa [rv.length] using hit, p⟩ fun h' eb => ⟨rfl, I.turned (t' := s.toks) (fun b o hb q => eb b o hb q) f0 f1 f3 f4 f5⟩
  self := fun A i s Q E st h => let ⟨⟨_, he⟩, _⟩ := st; wpAny_pyIter_enum he h

theorem turn_enumL {P : Program} {w : World} {K : PySem.W.Frag} {elts : List Expr} {kk : Nat} {tpos : Pos} (k0 : Int) (a : Addr) (xs : List V) (e it : Addr) :
    Turn P w K (.Tuple elts kk tpos) (Ixg (fun H => SqL K H a xs) k0 xs) [e, it] e (fun i h => (∃ old, IsEnum h e it (k0 + (i : Nat)) old) ∧ h.IsListIter it a i ∧ e ≠ it ∧ a ≠ e ∧ a ≠ it) where
  mem := by simp
  obj := fun i h st b hb => by
    obtain ⟨⟨old, he⟩, ⟨o, ho, hc, hd⟩, _⟩ := st
    have e' : b = e ∨ b = it := by simpa using hb
    rcases e' with z | z
    · rw [z]; exact ⟨_, he, fun v q => nomatch q⟩
    · rw [z]; exact ⟨o, ho, fun v q => by rw [hd] at q; cases q⟩
  keep := fun i h h' st k => let ⟨⟨old, he⟩, hi, hne⟩ := st; ⟨⟨old, k e (by simp) _ he⟩, hi.at fun o q => k it (by simp) o q, hne⟩
  item := by
    intro X hP hw hK hc i pins s σ H E I hf st hg
    subst hP hw hK
    obtain ⟨⟨old, he⟩, hit, hne, ae, ai⟩ := st
    obtain ⟨hq, hi⟩ := hg
    obtain ⟨its, rv, p, hz⟩ := I.list hq
    have hel : e < s.heap.objs.size := Heap.lt_size he
    have hil : it < s.heap.objs.size := by obtain ⟨_, q, _⟩ := hit; exact Heap.lt_size q
    refine wpAny_pyNext_enum_itemC (Draws.list (A := X.A.in1) (I.ok.hd hc) it a ai its.toArray) he ⟨hit, p.isList⟩ (i := i) (by rw [List.size_toArray, ← rv.length]; exact hi) hne (by simp [hne, Ne.symm ae]) fun u h' tk hu ho hit' hT hsz hk => ?_
    obtain ⟨x, hx, ru⟩ : ∃ x, xs[i]? = some x ∧ RelV x u := by
      obtain ⟨y, hy⟩ : ∃ y, xs[i]? = some y := ⟨_, List.getElem?_eq_getElem hi⟩
      obtain ⟨u', hu', ru⟩ := rv.get hy
      have : some u' = some u := by rw [← hu', ← hu]; simp
      cases this
      exact ⟨y, hy, ru⟩
    refine ⟨_, rfl, wpAny_letOwnedTupleGo_enum (s := { s with heap := h', toks := tk + 1 }) ho fun h'' he' sb => ?_⟩
    have hT2 : h''.get? s.heap.objs.size = some { cls := .type "tuple", data := .seq #[.int (k0 + (i : Nat)) tk, u] } := (sb.2 _ (Nat.ne_of_gt hel)).trans hT
    have new : ObjOk X.prog X.w (upd H s.heap.objs.size (.frz (tobj [.int (k0 + (i : Nat)) tk, u]) (.tup [.int (k0 + (i : Nat)), x]))) h'' s.heap.objs.size (.frz (tobj [.int (k0 + (i : Nat)) tk, u]) (.tup [.int (k0 + (i : Nat)), x])) :=
      ⟨hT2, by show 2 ≤ sizeLine; decide, [.int (k0 + (i : Nat)) tk, u], .cons ⟨_, rfl⟩ (.cons ru .nil), ⟨_, hT2, rfl, _, rfl⟩⟩
    have I1 : Inv X pins σ (upd H s.heap.objs.size (.frz (tobj [.int (k0 + (i : Nat)) tk, u]) (.tup [.int (k0 + (i : Nat)), x]))) { s with heap := h'', toks := tk + 1 } :=
      I.turnedNew (ch := [e, it]) (fun b ob hb q => (sb.2 b (fun z => hb (by simp [z]))).trans (hk b ob (fun z => hb (by simp [z])) (fun z => hb (by simp [z])) q)) hf (Nat.le_refl _) new
    refine ⟨.ref s.heap.objs.size, _, I1, rfl, ⟨_, x, rfl, I.hok.fresh (Nat.le_refl _), hx, _, ⟨_, rfl, rfl, rfl⟩, rfl⟩, ⟨⟨u, ?_⟩, hit'.1.at fun o q => (sb.2 it (Ne.symm hne)).trans q, hne, ae, ai⟩, fun b hb => ?_⟩
    · have e1 : (k0 + ((i + 1 : Nat) : Int)) = (k0 + (i : Nat)) + 1 := by omega
      rw [e1]; exact he'
    · have hb' : b < s.heap.objs.size := by
        have e' : b = e ∨ b = it := by simpa using hb
        rcases e' with z | z
        · rw [z]; exact hel
        · rw [z]; exact hil
      rw [upd_ne (Nat.ne_of_lt hb')]
      exact (hf b hb).1
  done := by
    intro X hP hw hK hc i pins s σ H E I hf st hg
    subst hP hw hK
    obtain ⟨⟨old, he⟩, hit, hne, ae, ai⟩ := st
    obtain ⟨hq, rfl⟩ := hg
    obtain ⟨its, rv, p, hz⟩ := I.list hq
    obtain ⟨f0, f1, f2, f3, f4, f5⟩ := hf it (by simp)
    exact wpAny_pyNext_enum_endD (Draws.list (A := X.A.in1) (I.ok.hd hc) it a ai its.toArray) he ⟨by simpa [rv.length] using hit, p.isList⟩ fun h' eb => ⟨rfl, I.turned (t' := s.toks) (fun b o hb q => eb b o hb q) f0 f1 f3 f4 f5⟩
  self := fun A i s Q E st h => let ⟨⟨_, he⟩, _⟩ := st; wpAny_pyIter_enum he h
end Cut
namespace PySem
open Sem (wp)
theorem meets_enumerate_new1 {v : Value} {o : Obj} {H : Heap → Prop} (B : Begins v o H) :
    Meets (Builtin.«enumerate.__new__» ⟨[.type "enumerate", v], []⟩) (fun _ R s => H s.heap ∧
      R (.ok (.ret (.ref (s.heap.push o).objs.size))) { s with heap := (s.heap.push o).push { cls := .type "enumerate", data := .fields #[.none, .bool false, .ref s.heap.objs.size, rawInt 0, .none, .none] } }) :=
  .of_wp fun prog w A R s h => by
    obtain ⟨hp, g, d, tk, os⟩ := s; obtain ⟨h1, h⟩ := h
    have hsub := sub_enumerate
    have q1 : ∀ {A' : Around} {E : Value → Shared → Prop} {Q : Value → Shared → Prop}, Q (.ref hp.objs.size) ⟨hp.push o, g, d, tk, os⟩ → wpAny (model prog w) A' (pyIter v) Q E ⟨hp, g, d, tk, os⟩ :=
      fun q => B.iter prog w _ _ ⟨hp, g, d, tk, os⟩ _ h1 q
    wp_walk using q1
    refine wpAny_stack_any fun st => wpAny_pure ?_
    split
    · rename_i c _ _ _ _ _
      cases (c == Value.type "enumerate")
      · wp_walk using q1
        exact ⟨_, rfl, h⟩
      · wp_walk using q1
        exact ⟨_, rfl, h⟩
    · wp_walk using q1
      exact ⟨_, rfl, h⟩
section
variable {prog : Program} {w : World} {A : Around} {E : Value → Shared → Prop} {s : Shared}
theorem enum_begins1 {v : Value} {o : Obj} {H : Heap → Prop} {Q : Value → Shared → Prop} (B : Begins v o H) (h1 : H s.heap)
    (h : ∀ h', IsEnum h' (s.heap.objs.size + 1) s.heap.objs.size 0 .none → h'.get? s.heap.objs.size = some o → h'.objs.size = s.heap.objs.size + 2 →
      (∀ b o, s.heap.get? b = some o → h'.get? b = some o) → Q (.ref (s.heap.objs.size + 1)) { s with heap := h' }) :
    wpAny (model prog w) A (call (.type "enumerate") [v]) Q E s := by
  refine callType_new F.called_enumerate (by decide) (F.typeCall_enumerate_1 _) (F.newCall_enumerate_1 _) (fun obj => F.args_object_init_2 obj _) F.entry_enumerate_new
    (meets_enumerate_new1 B) ⟨h1, ?_⟩
  have hz : (s.heap.push o).objs.size = s.heap.objs.size + 1 := Heap.size_push ..
  show _ ∧ _
  rw [hz]
  have he : IsEnum ((s.heap.push o).push { cls := .type "enumerate", data := .fields #[.none, .bool false, .ref s.heap.objs.size, rawInt 0, .none, .none] }) (s.heap.objs.size + 1) s.heap.objs.size 0 .none := by
    have := Heap.get?_push_size (s.heap.push o) (o := { cls := .type "enumerate", data := .fields #[.none, .bool false, .ref s.heap.objs.size, rawInt 0, .none, .none] }) rfl
    rw [hz] at this; exact this
  refine ⟨⟨_, he, rfl⟩, h _ he (Heap.get?_push_of_some _ (Heap.get?_push_size _ B.free)) (by rw [Heap.size_push, hz]) fun b o x => Heap.get?_push_of_some _ (Heap.get?_push_of_some _ x)⟩
end
end PySem
namespace Cut
open PySem PySem.Spec L2
open PyProof.Rows hiding St
def iEnumG (K : PySem.W.Frag) (ta : TA) : TI := fun σ H R => ta σ H fun vs H1 => ∃ v k0, ((vs = [v] ∧ k0 = 0) ∨ vs = [v, .int k0]) ∧ -(2 ^ 62) ≤ k0 ∧ k0 < 2 ^ 62 ∧
  ((∃ a xs, v = .ref a ∧ SqT K H1 a xs ∧ R (Ixg (fun H => SqT K H a xs) k0 xs) H1) ∨ (∃ a xs, v = .ref a ∧ SqL K H1 a xs ∧ R (Ixg (fun H => SqL K H a xs) k0 xs) H1) ∨ (∃ x, v = .str x ∧ R (Ixg (fun _ => True) k0 (signs x)) H1))
theorem enum_call {P : Program} {w : World} {A : Around} {E : Value → Shared → Prop} {s : Shared} {u : Value} {us : List Value} {k0 : Int} {o : Obj} {Hh : Heap → Prop} {Q : Value → Shared → Prop} (hu : (us = [u] ∧ k0 = 0) ∨ ∃ t, us = [u, .int k0 t]) (b0 : -(2 ^ 62) ≤ k0) (b1 : k0 < 2 ^ 62)
    (B : Begins u o Hh) (h1 : Hh s.heap)
    (h : ∀ h', IsEnum h' (s.heap.objs.size + 1) s.heap.objs.size k0 .none → h'.get? s.heap.objs.size = some o → h'.objs.size = s.heap.objs.size + 2 →
      (∀ b o, s.heap.get? b = some o → h'.get? b = some o) → Q (.ref (s.heap.objs.size + 1)) { s with heap := h' }) : wpAny (model P w) A (call (.type "enumerate") us) Q E s := by
  rcases hu with ⟨rfl, rfl⟩ | ⟨t, rfl⟩
  · exact enum_begins1 B h1 h
  · exact enum_begins B h1 (Int.le_trans (by decide) b0) (Int.lt_of_lt_of_le b1 (by decide)) h
theorem pi_enumG {X : Cx} {e : Expr} {es : List Expr} {ta : TA} {p pos tpos : Pos} {elts : List Expr} {kk : Nat} (hg : Gl X "enumerate") (hm : X.mg "enumerate" = none) (ha : PA X (e :: es) ta)
    (he : starEach (e :: es) X.env = (false, eval e X.env) :: starEach es X.env) (hpl : (backTo pos (starEach es X.env)).any (·.1) = false) :
    PI X (.Tuple elts kk tpos) (.Call (.Name "enumerate" p) (e :: es) [] pos) (iEnumG X.K ta) := by
  refine ⟨fun pins s σ H R I h => ?_⟩
  refine Call_ (ld_blt I hg hm boot_enumerate (PyProof.Rows.callWith_type1 (thn (ha.run pos pins s σ H _ I h) fun us s1 ⟨vs, H1, I1, r1, q1⟩ => ?_) he hpl))
  obtain ⟨v, k0, ev, b0, b1, q⟩ := q1
  obtain ⟨u, hu, ru⟩ : ∃ u, ((us = [u] ∧ k0 = 0) ∨ ∃ t, us = [u, .int k0 t]) ∧ RelV v u := by
    rcases ev with ⟨rfl, rfl⟩ | rfl
    · cases r1 with | cons r rr => cases rr; exact ⟨_, .inl ⟨rfl, rfl⟩, r⟩
    · cases r1 with | cons r rr => cases rr with | cons r2 rr2 => cases rr2; obtain ⟨t, rfl⟩ := r2; exact ⟨_, .inr ⟨t, rfl⟩, r⟩
  have fp : ∀ b, b ∈ [s1.heap.objs.size + 1, s1.heap.objs.size] → FpOk X pins H1 b := fun b hb => by
    have e' : b = s1.heap.objs.size + 1 ∨ b = s1.heap.objs.size := by simpa using hb
    have hle : s1.heap.objs.size ≤ b := by
      rcases e' with z | z
      · rw [z]; exact Nat.le_add_right _ _
      · rw [z]; exact Nat.le_refl _
    exact I1.fpOk hle (I1.hok.fresh hle)
  rcases q with ⟨a, xs, rfl, hq, q⟩ | ⟨a, xs, rfl, hq, q⟩ | ⟨x, rfl, q⟩
  · cases ru
    obtain ⟨its, rv, p', hz⟩ := I1.tuple hq
    have al : a < s1.heap.objs.size := let ⟨o, q, _⟩ := p'; Heap.lt_size q
    refine enum_call hu b0 b1 (begins_tuple a its.toArray) p' fun h' he hit hsz hk => wpAny_pyIter_enum he ?_
    have I2 : Inv X pins σ H1 { s1 with heap := h' } := I1.kept (t' := s1.toks) hk
    exact ⟨s1.heap.objs.size + 1, [s1.heap.objs.size + 1, s1.heap.objs.size], _, _, H1, rfl, I2, turn_enumT k0 a xs (s1.heap.objs.size + 1) s1.heap.objs.size, ⟨⟨.none, by simpa using he⟩, ⟨_, hit, rfl, rfl⟩, Nat.succ_ne_self _, Nat.ne_of_lt (Nat.lt_succ_of_lt al), Nat.ne_of_lt al⟩, fp, q⟩
  · cases ru
    obtain ⟨its, rv, p', hz⟩ := I1.list hq
    have al : a < s1.heap.objs.size := let ⟨o, n, q, _⟩ := p'; Heap.lt_size q
    refine enum_call hu b0 b1 (begins_list a its.toArray) p'.isList fun h' he hit hsz hk => wpAny_pyIter_enum he ?_
    have I2 : Inv X pins σ H1 { s1 with heap := h' } := I1.kept (t' := s1.toks) hk
    exact ⟨s1.heap.objs.size + 1, [s1.heap.objs.size + 1, s1.heap.objs.size], _, _, H1, rfl, I2, turn_enumL k0 a xs (s1.heap.objs.size + 1) s1.heap.objs.size, ⟨⟨.none, by simpa using he⟩, ⟨_, hit, rfl, rfl⟩, Nat.succ_ne_self _, Nat.ne_of_lt (Nat.lt_succ_of_lt al), Nat.ne_of_lt al⟩, fp, q⟩
  · obtain ⟨t, rfl⟩ := ru
    refine enum_call hu b0 b1 (begins_text x t) trivial fun h' he hit hsz hk => wpAny_pyIter_enum he ?_
    have I2 : Inv X pins σ H1 { s1 with heap := h' } := I1.kept (t' := s1.toks) hk
    exact ⟨s1.heap.objs.size + 1, [s1.heap.objs.size + 1, s1.heap.objs.size], _, _, H1, rfl, I2, turn_enumS k0 x t (s1.heap.objs.size + 1) s1.heap.objs.size, ⟨⟨.none, by simpa using he⟩, ⟨_, hit, rfl, rfl⟩, Nat.succ_ne_self _⟩, fp, q⟩
/-! #### as data -/
def pairsD (k0 : Int) : List D → List D
  | [] => []
  | x :: r => .tup [.int k0, x] :: pairsD (k0 + 1) r
def enuD (k0 : Int) (d : D) : Option (List D) := if big k0 = true then (match d with
  | .lst xs => some (pairsD k0 xs)
  | .tup xs => some (pairsD k0 xs)
  | .str w => some (pairsD k0 (w.map fun c => .str [c]))
  | _ => none) else none
theorem pairsD_get : ∀ (xs : List D) (k0 : Int) (i : Nat) (x : D), xs[i]? = some x → (pairsD k0 xs)[i]? = some (.tup [.int (k0 + (i : Nat)), x])
  | [], _, _, _, h => by simp at h
  | y :: r, k0, 0, x, h => by simp at h; subst h; simp [pairsD]
  | y :: r, k0, i + 1, x, h => by
    simp at h
    have := pairsD_get r (k0 + 1) i x h
    simp only [pairsD, List.getElem?_cons_succ, this]
    rw [show k0 + 1 + (i : Int) = k0 + ((i + 1 : Nat) : Int) by omega]
theorem pairsD_len : ∀ (xs : List D) (k0 : Int), (pairsD k0 xs).length = xs.length
  | [], _ => rfl
  | x :: r, k0 => by simp [pairsD, pairsD_len r]
theorem itd_enum {K : PySem.W.Frag} {cc : Addr} {F1 : Hp} {ok : Hp → Prop} {k0 : Int} {vs : List V} {ds : List D} (hok : ∀ F H, Same F1 F → Same F H → ok H) (r : Reps K cc F1 ds vs) : ItD K cc F1 (Ixg ok k0 vs) (pairsD k0 ds) where
  go := fun i F H hi sm fh => ⟨hok F H sm fh, by rw [pairsD_len] at hi; rw [r.len]; exact hi⟩
  stop := fun i F H hi sm fh => ⟨hok F H sm fh, by rw [pairsD_len] at hi; rw [r.len]; exact hi⟩
  yld := fun i F H x H' hi sm fh y => by
    obtain ⟨T, v, rfl, nT, hx, o, tx, rfl⟩ := y
    obtain ⟨d, e, q⟩ := r.getV hx
    have g := Gr.new (o := o) fh nT
    refine ⟨_, _, pairsD_get _ _ _ _ e, g, ?_⟩
    unfold Rep
    exact ⟨T, o, _, rfl, upd_same, tx, reps_cons.mpr ⟨_, _, rfl, rep_int, reps_one (Rep.mono (sm.trans g.mono) _ _ q)⟩⟩
theorem reps_signs {K : PySem.W.Frag} {cc : Addr} {F : Hp} (w : Wd) : Reps K cc F (w.map fun c => D.str [c]) (signs (S w)) := by
  unfold signs
  rw [S_cps]
  induction w with
  | nil => exact reps_nil.mpr rfl
  | cons c r ih => exact reps_cons.mpr ⟨_, _, rfl, rep_str, ih⟩
/-- the arguments' numbers: the thing, and the start -/
def enuArgs : List D → Option (List D)
  | [d] => enuD 0 d
  | [d, .int k0] => enuD k0 d
  | _ => none
section
variable {X : Cx} {Φ : Fx} {W : WX} {e : Expr} {es : List Expr} {g : DS → Rs (List D)} {pos : Pos}
theorem di_enum {p tpos : Pos} {elts : List Expr} {kk : Nat} (hg : Gl X "enumerate") (hm : X.mg "enumerate" = none) (he : starEach (e :: es) X.env = (false, eval e X.env) :: starEach es X.env) (hpl : (backTo pos (starEach es X.env)).any (·.1) = false) (ha : DA X Φ W (e :: es) g) :
    DI X Φ W (.Tuple elts kk tpos) (.Call (.Name "enumerate" p) (e :: es) [] pos) (rngI enuArgs g) :=
  PI.imp (pi_enumG hg hm ha he hpl) fun σ H R ⟨F, s, R0, h⟩ => ⟨F, s, R0, (Hold.bind h).imp fun F1 H1 ds s1 R1 e1 h1 vs rvs => by
    obtain ⟨z, ez, h2⟩ := ofL_hold h1
    have key : ∃ v k0 d, ((vs = [v] ∧ k0 = 0) ∨ vs = [v, .int k0]) ∧ Rep X.K Φ.cc F1 d v ∧ enuD k0 d = some z := by
      unfold enuArgs at ez
      split at ez
      · obtain ⟨v, r, rfl, rv, rr⟩ := reps_cons.mp rvs
        rw [reps_nil] at rr
        subst rr
        exact ⟨v, 0, _, .inl ⟨rfl, rfl⟩, rv, ez⟩
      · obtain ⟨v, r, rfl, rv, rr⟩ := reps_cons.mp rvs
        obtain ⟨v2, r2, rfl, rv2, rr⟩ := reps_cons.mp rr
        rw [reps_nil] at rr
        subst rr
        unfold Rep at rv2
        subst rv2
        exact ⟨v, _, _, .inr rfl, rv, ez⟩
      · cases ez
    obtain ⟨v, k0, d, ev, rv, ez⟩ := key
    unfold enuD at ez
    split at ez
    case isFalse => cases ez
    case isTrue hb =>
      have b := big_of hb
      refine ⟨v, k0, ev, b.1, b.2, ?_⟩
      split at ez
      · cases ez
        unfold Rep at rv
        obtain ⟨a, us, rfl, q1, q2⟩ := rv
        exact .inr (.inl ⟨a, us, rfl, .of (R1.fh _ _ q1), h2 F1 H1 R1 .refl _ (itd_enum (fun F H s1 s2 => .of (s2 _ _ (s1 _ _ q1))) q2)⟩)
      · cases ez
        unfold Rep at rv
        obtain ⟨a, o, us, rfl, q1, t1, q2⟩ := rv
        exact .inl ⟨a, us, rfl, t1.sq (R1.fh _ _ q1), h2 F1 H1 R1 .refl _ (itd_enum (fun F H s1 s2 => t1.sq (s2 _ _ (s1 _ _ q1))) q2)⟩
      · cases ez
        unfold Rep at rv
        subst rv
        exact .inr (.inr ⟨_, rfl, h2 F1 H1 R1 .refl _ (itd_enum (fun _ _ _ _ => trivial) (reps_signs _))⟩)
      · cases ez⟩
end
end Cut
namespace Cut
open PySem PySem.Spec L2
open PyProof.Rows hiding St

/-! ### methods of built-in things -/
def notCallE : Expr → Bool
  | .Call _ _ _ _ => false
  | _ => true
theorem baseE {e : Expr} (h : notCallE e = true) (f : Str) (env : Env) : attributeBase e f env (eval e env) = eval e env := by
  cases e <;> first | rfl | cases h
theorem Hold.of' {K : PySem.W.Frag} {mg : Str → Option Value} {Φ : Fx} {W : WX} {F : Hp} {σ : St} {H : Hp} {s : DS} {α : Type} {o : Option α} {P : Hp → Hp → α → DS → Prop} (R : Rel K Φ F σ H s) (h : Hold K mg Φ W F σ H s (Rs.of o s) P) : ∃ z, o = some z ∧ ∀ F' H', Rel K Φ F' σ H' s → ESt Φ σ s F H s F' H' → P F' H' z s := by
  cases o with
  | none => exact h.elim
  | some z => exact ⟨z, rfl, h⟩
def tyW (K : PySem.W.Frag) (T : String) (x : V) (H : Hp) : Prop := tyV K T x H ∨ ∃ p o xs, T = "tuple" ∧ x = .ref p ∧ H p = some o ∧ TX o xs
theorem tyW_is {X : Cx} {pins : List (Addr × Obj)} {σ : St} {H : Hp} {s : Shared} {T : String} {x : V} {v : Value} (I : Inv X pins σ H s) (r : RelV x v) (ty : tyW X.K T x H) :
    s.TypeIs v T ∧ ∀ a, v = .ref a → ∃ ob, s.heap.get? a = some ob ∧ ob.dict = none := by
  rcases ty with ty | ⟨p, o, xs, rfl, rfl, h, ob, h1, h2, rfl⟩
  · exact tyV_is I r ty
  · cases r
    obtain ⟨e, _⟩ := I.hok p _ h
    exact ⟨⟨ob, e, h2⟩, fun a q => by cases q; exact ⟨ob, e, h1⟩⟩
section
variable {X : Cx} {o e : Expr} {es : List Expr} {to : TE} {t : TA} {name : Str} {apos cpos : Pos} {T id : String} {r : V → List V → Hp → VK → Prop}
def tBMX (K : PySem.W.Frag) (T : String) (r : V → List V → Hp → VK → Prop) (to : TE) (t : TA) : TE := fun σ H Q => to σ H fun x H1 => tyW K T x H1 ∧ t σ H1 fun xs H2 => r x xs H2 Q
def few (n : Nat) : Bool := decide (n < 29)
theorem pe_bmX (pa : PlainAttrs T) (slot : Slot T name id) (hty : typeOf (.builtin id) = pure (.type "method_descriptor")) (hm : MtR X id r) (ho : PE X o to) (ha : PA X (e :: es) t)
    (hbase : attributeBase o name X.env (eval o X.env) = eval o X.env)
    (hfew : ((backTo cpos (starEach (e :: es) X.env)).all (fun x => !x.1) && (backToKw cpos (keywordEach [] X.env)).all (fun x => x.1.isSome)
      && decide ((e :: es).length + ([] : List Keyword).length + (if ([] : List Keyword).isEmpty then 0 else 1) < 30)) = true)
    (hline : (apos.endLine == cpos.line) = true) (hs : starEach (e :: es) X.env = (false, eval e X.env) :: starEach es X.env) (hplain : (backTo cpos (starEach es X.env)).any (·.1) = false) :
    PE X (.Call (.Attribute o name apos) (e :: es) [] cpos) (tBMX X.K T r to t) := by
  refine ⟨fun pins s σ H Q I h => ?_⟩
  refine wpAny_Call_method_late hbase hfew hline rfl (thn (ho.run pins s σ H _ I h) fun v s1 ⟨x, H1, I1, r1, ty, q1⟩ => ?_)
  obtain ⟨h1, h2⟩ := tyW_is I1 r1 ty
  refine ⟨T, id, pa, slot, hty, h1, h2, ?_⟩
  have hA := ha.run cpos pins s1 σ H1 _ I1 q1
  rw [hs] at hA ⊢
  refine Calls.callWith_builtin (by show (false || (backTo cpos (starEach es X.env)).any (·.1)) = false; rw [hplain] <;> rfl) (Calls.evalArgs_plain ?_)
  exact thn hA fun us s2 ⟨vs, H2, I2, r2, q2⟩ => hm pins s2 σ H2 x vs v us Q I2 r1 r2 q2
end
theorem repB_est {K : PySem.W.Frag} {Φ : Fx} {σ : St} {s s' : DS} {F H F' H' : Hp} (e : ESt Φ σ s F H s' F' H') {d : D} {v : V} (h : RepB K Φ F H d v) : RepB K Φ F' H' d v := h.est e
inductive Rc where | tup | str | lst deriving DecidableEq
def Rc.nm : Rc → String | .tup => "tuple" | .str => "str" | .lst => "list"
def Rc.is : Rc → D → Bool
  | .tup, .tup _ => true
  | .str, .str _ => true
  | .lst, .lst _ => true
  | _, _ => false
def calW (c : Rc) (op : D → List D → Option D) (f : DS → Rs D) (g : DS → Rs (List D)) : DS → Rs D := fun s => (f s).bind fun d s => if c.is d = true then (g s).bind fun ds s => Rs.of (op d ds) s else .bad
def rMN (K : PySem.W.Frag) (Φ : Fx) (op : D → List D → Option D) : V → List V → Hp → VK → Prop := fun x vs H Q => ∃ F d ds z, Same F H ∧ RepB K Φ F H d x ∧ RepsB K Φ F H ds vs ∧ op d ds = some z ∧ ∀ p o, H p = none → CellO K Φ.cc F o z → Q (.ref p) (upd H p o)
section
variable {X : Cx} {Φ : Fx} {W : WX} {o e : Expr} {es : List Expr} {f : DS → Rs D} {g : DS → Rs (List D)} {name : Str} {apos cpos : Pos} {id : String}
theorem ty_of {K : PySem.W.Frag} {F H : Hp} {c : Rc} {d : D} {v : V} (sm : Same F H) (h : RepB K Φ F H d v) (e : c.is d = true) : tyW K c.nm v H := by
  cases c with
  | tup => cases d with
    | tup xs => obtain ⟨a, o, vs, rfl, _, h1, t1, _⟩ := h.tup sm; exact .inr ⟨a, o, vs, rfl, rfl, h1, t1⟩
    | _ => cases e
  | str => cases d with
    | str xs => rw [h.str]; exact .inl rfl
    | _ => cases e
  | lst => cases d with
    | lst xs => obtain ⟨a, vs, rfl, h1, _⟩ := h.lst sm; exact .inl (.inl ⟨rfl, vs, .of h1⟩)
    | _ => cases e
theorem hfew_of (hs : starEach (e :: es) X.env = (false, eval e X.env) :: starEach es X.env) (hplain : (backTo cpos (starEach es X.env)).any (·.1) = false) (hl : (e :: es).length < 29) :
    ((backTo cpos (starEach (e :: es) X.env)).all (fun x => !x.1) && (backToKw cpos (keywordEach [] X.env)).all (fun x => x.1.isSome)
      && decide ((e :: es).length + ([] : List Keyword).length + (if ([] : List Keyword).isEmpty then 0 else 1) < 30)) = true := by
  rw [hs]
  have h1 : (backTo cpos ((false, eval e X.env) :: starEach es X.env)).all (fun x => !x.1) = true := by
    show (!false && (backTo cpos (starEach es X.env)).all (fun x => !x.1)) = true
    rw [Bool.not_false, Bool.true_and, List.all_eq_not_any_not]
    simp only [Bool.not_not]
    rw [hplain]; rfl
  rw [h1, Bool.true_and]
  show (true && decide _) = true
  rw [Bool.true_and, decide_eq_true_eq]
  show (e :: es).length + 0 + 0 < 30
  omega
theorem de_mt {c : Rc} {op : D → List D → Option D} (pa : PlainAttrs c.nm) (slot : Slot c.nm name id) (hty : typeOf (.builtin id) = pure (.type "method_descriptor")) (hm : MtR X id (rM X.K Φ op)) (ho : DB X Φ W o f) (ha : DAb X Φ W (e :: es) g)
    (hb : notCallE o = true) (hline : (apos.endLine == cpos.line) = true) (hs : starEach (e :: es) X.env = (false, eval e X.env) :: starEach es X.env) (hplain : (backTo cpos (starEach es X.env)).any (·.1) = false) (hl : (e :: es).length < 29) :
    DE X Φ W (.Call (.Attribute o name apos) (e :: es) [] cpos) (calW c op f g) :=
  PE.imp (pe_bmX pa slot hty hm ho ha (baseE hb _ _) (hfew_of hs hplain hl) hline hs hplain) fun σ H Q ⟨F, s, R, h⟩ => ⟨F, s, R, (Hold.bind h).imp fun F1 H1 d s1 R1 e1 h1 v rv => by
    split at h1
    case isTrue hc => exact ⟨ty_of R1.fh rv hc, F1, s1, R1, (Hold.bind h1).imp fun F2 H2 ds s2 R2 e2 h2 vs rvs => by
        obtain ⟨z, ez, q⟩ := Hold.of' R2 h2
        exact ⟨F2, d, ds, z, R2.fh, rv.est e2, rvs, ez, fun F3 H3 v3 g3 r3 => q F3 H3 (R2.gr g3) g3.est v3 r3⟩⟩
    case isFalse => exact h1.elim⟩
theorem df_mt {c : Rc} {op : D → List D → Option D} (pa : PlainAttrs c.nm) (slot : Slot c.nm name id) (hty : typeOf (.builtin id) = pure (.type "method_descriptor")) (hm : MtR X id (rMN X.K Φ op)) (ho : DB X Φ W o f) (ha : DAb X Φ W (e :: es) g)
    (hb : notCallE o = true) (hline : (apos.endLine == cpos.line) = true) (hs : starEach (e :: es) X.env = (false, eval e X.env) :: starEach es X.env) (hplain : (backTo cpos (starEach es X.env)).any (·.1) = false) (hl : (e :: es).length < 29) :
    DF X Φ W (.Call (.Attribute o name apos) (e :: es) [] cpos) (calW c op f g) :=
  PE.imp (pe_bmX pa slot hty hm ho ha (baseE hb _ _) (hfew_of hs hplain hl) hline hs hplain) fun σ H Q ⟨F, s, R, h⟩ => ⟨F, s, R, (Hold.bind h).imp fun F1 H1 d s1 R1 e1 h1 v rv => by
    split at h1
    case isTrue hc => exact ⟨ty_of R1.fh rv hc, F1, s1, R1, (Hold.bind h1).imp fun F2 H2 ds s2 R2 e2 h2 vs rvs => by
        obtain ⟨z, ez, q⟩ := Hold.of' R2 h2
        exact ⟨F2, d, ds, z, R2.fh, rv.est e2, rvs, ez, fun p o np c => q F2 H2 R2 .refl p o np c⟩⟩
    case isFalse => exact h1.elim⟩
/-! #### index -/
def idxOf (w : Wd) : List Wd → Option Nat
  | [] => none
  | x :: r => if x = w then some 0 else (idxOf w r).map (· + 1)
theorem idxOf_some : ∀ {w : Wd} {ws : List Wd} {j : Nat}, idxOf w ws = some j → ws[j]? = some w ∧ ∀ m, m < j → ws[m]? ≠ some w
  | w, [], j, h => by cases h
  | w, x :: r, j, h => by
    unfold idxOf at h
    split at h
    case isTrue hx => cases h; subst hx; exact ⟨rfl, fun m hm => absurd hm (Nat.not_lt_zero _)⟩
    case isFalse hx =>
      obtain ⟨i, hi, rfl⟩ := Option.map_eq_some_iff.mp h
      obtain ⟨h1, h2⟩ := idxOf_some hi
      refine ⟨by simpa using h1, fun m hm => ?_⟩
      cases m with
      | zero => simpa using hx
      | succ m => simpa using h2 m (by omega)
def tupIdx : D → List D → Option D
  | .tup ds, [.str w] => (strsOf ds).bind fun ws => (idxOf w ws).map fun j => .int (j : Nat)
  | _, _ => none
theorem mt_tupIdx : MtR X "tuple.index" (rM X.K Φ tupIdx) := by
  intro pins s σ H x xs v us Q I rx rs ⟨F, d, ds, z, sm, hx, hxs, ez, q⟩
  unfold tupIdx at ez
  split at ez
  · rename_i es w
    obtain ⟨ws, hw, ez⟩ := Option.bind_eq_some_iff.mp ez
    obtain ⟨j, hj, rfl⟩ := Option.map_eq_some_iff.mp ez
    obtain ⟨a, o, vs, rfl, _, h1, t1, r1⟩ := hx.tup sm
    obtain ⟨u, rfl, ru⟩ := repsB1 hxs
    have := strs_vs hw r1
    subst this
    obtain ⟨i1, i2⟩ := idxOf_some hj
    refine mt_tup_index pins s σ H _ _ v us Q I rx rs ⟨a, ws.map S, S w, j, rfl, by rw [ru.str], t1.sq h1, by rw [List.getElem?_map, i1]; rfl, fun m hm e => ?_, q F H _ (.refl sm) rep_int⟩
    rw [List.getElem?_map] at e
    obtain ⟨y, hy, ey⟩ := Option.map_eq_some_iff.mp e
    rw [S_inj ey] at hy
    exact i2 m hm hy
  · cases ez
def idxD (d : D) : List D → Option Nat
  | [] => none
  | x :: r => if deq x d = true then some 0 else (idxD d r).map (· + 1)
theorem idxD_some : ∀ {d : D} {ws : List D} {j : Nat}, idxD d ws = some j → (∃ z, ws[j]? = some z ∧ deq z d = true) ∧ ∀ m z, m < j → ws[m]? = some z → deq z d = false
  | w, [], j, h => by cases h
  | w, x :: r, j, h => by
    unfold idxD at h
    split at h
    case isTrue hx => cases h; exact ⟨⟨x, rfl, hx⟩, fun m _ hm => absurd hm (Nat.not_lt_zero _)⟩
    case isFalse hx =>
      obtain ⟨i, hi, rfl⟩ := Option.map_eq_some_iff.mp h
      obtain ⟨h1, h2⟩ := idxD_some hi
      refine ⟨by simpa using h1, fun m z hm hz => ?_⟩
      cases m with
      | zero => simp at hz; subst hz; simpa using hx
      | succ m => exact h2 m z (by omega) (by simpa using hz)
end
end Cut
namespace Cut
open PySem PySem.Spec L2
open PyProof.Rows hiding St

/-! ### new lists: of a range, of a text, sorted -/
/-- list(range(a, b)) -/
def lrgD : List D → Option D
  | [.int i, .int j] => if big i && big j && decide ((j - i).toNat ≤ 16777216) then some (.lst (rangeD i (j - i).toNat)) else none
  | _ => none
section
variable {X : Cx} {Φ : Fx} {W : WX} {pos : Pos} {g : DS → Rs (List D)}
def tRgA (ta : TA) : St → Hp → (Int → Int → Hp → Prop) → Prop := fun σ H Q => ta σ H fun vs H1 => ∃ i j, vs = [.int i, .int j] ∧ Q i j H1
theorem prg_2A {a b : Expr} {ta : TA} {p pos : Pos} (hg : Gl X "range") (hm : X.mg "range" = none) (ha : PA X [a, b] ta) (hs : starEach [a, b] X.env = [(false, eval a X.env), (false, eval b X.env)]) (hs2 : starEach [b] X.env = [(false, eval b X.env)]) : PRg X (.Call (.Name "range" p) [a, b] [] pos) (tRgA ta) := by
  intro pins s σ H Q I h
  refine Call_ (ld_blt I hg hm boot_range (PyProof.Rows.callWith_type1 (thn (ha.run pos pins s σ H _ I h) fun us s1 ⟨vs, H1, I1, r1, q1⟩ => ?_) (by rw [hs, hs2]) (by rw [hs2]; rfl)))
  obtain ⟨i, j, e, q⟩ := q1
  subst e
  cases r1 with
  | cons r rr =>
    cases rr with
    | cons r' rr =>
      cases rr
      obtain ⟨t, rfl⟩ := r
      obtain ⟨t', rfl⟩ := r'
      exact call_range_2 ⟨_, i, j, _, _, _, H1, rfl, IsRange.new _ _ _ _ _ _ _, I1.kept fun b u e => Heap.get?_push_of_some _ e, q⟩
theorem reps_rg {K : PySem.W.Frag} {F : Hp} {cc : Addr} (i j : Int) : Reps K cc F (rangeD i (j - i).toNat) (rgV i j) := by
  unfold rangeD rgV
  generalize List.range (j - i).toNat = L
  induction L with
  | nil => exact reps_nil.mpr rfl
  | cons x r ih => exact reps_cons.mpr ⟨_, _, rfl, by unfold Rep; rfl, ih⟩
theorem reps_ltx {K : PySem.W.Frag} {F : Hp} {cc : Addr} : ∀ w : Wd, Reps K cc F (w.map fun c => D.str [c]) (w.map fun c => V.str (S [c]))
  | [] => reps_nil.mpr rfl
  | c :: r => reps_cons.mpr ⟨_, _, rfl, by unfold Rep; rfl, reps_ltx r⟩
theorem reps_strS {K : PySem.W.Frag} {F : Hp} {cc : Addr} : ∀ ws : List Wd, Reps K cc F (ws.map D.str) (ws.map fun w => V.str (S w))
  | [] => reps_nil.mpr rfl
  | c :: r => reps_cons.mpr ⟨_, _, rfl, by unfold Rep; rfl, reps_strS r⟩
theorem df_listRg {a b : Expr} {p p2 pos2 : Pos} (hc : X.calm = true) (hg : Gl X "list") (hm : X.mg "list" = none) (hg2 : Gl X "range") (hm2 : X.mg "range" = none) (hs : starEach [a, b] X.env = [(false, eval a X.env), (false, eval b X.env)]) (hs2 : starEach [b] X.env = [(false, eval b X.env)])
    (ha : DAb X Φ W [a, b] g) : DF X Φ W (.Call (.Name "list" p) [.Call (.Name "range" p2) [a, b] [] pos2] [] pos) (calB lrgD g) :=
  PE.imp (pe_listRg hc hg hm (prg_2A hg2 hm2 ha hs hs2)) fun σ H Q ⟨F, s, R, h⟩ => ⟨F, s, R, (Hold.bind h).imp fun F1 H1 ds s1 R1 e1 h1 vs rvs => by
    obtain ⟨z, ez, h2⟩ := of_hold h1
    unfold lrgD at ez
    split at ez
    case h_1 i j =>
      split at ez
      case isTrue hb =>
        cases ez
        rw [Bool.and_eq_true, Bool.and_eq_true, decide_eq_true_eq] at hb
        obtain ⟨v, u, rfl, r1, r2⟩ := repsB2 rvs
        have b1 := big_of hb.1.1
        have b2 := big_of hb.1.2
        exact ⟨i, j, by rw [r1.int, r2.int], ⟨b1.1, b1.2, b2.1, b2.2, hb.2⟩, fun q nq => h2 F1 H1 R1 .refl q _ nq ⟨_, rfl, reps_rg i j⟩⟩
      · cases ez
    · cases ez⟩
/-- list(text) -/
def ltxD : List D → Option D
  | [.str w] => if w.length ≤ LN then some (.lst (w.map fun c => .str [c])) else none
  | _ => none
theorem cl_ltx (hc : X.calm = true) : CallR X (.type "list") (rCN X.K Φ ltxD) := by
  intro pins s σ H vs us Q I rv ⟨F, ds, z, sm, hv, ez, q⟩
  unfold ltxD at ez
  split at ez
  case h_1 w =>
    split at ez
    case isTrue hl =>
      cases ez
      obtain ⟨v, rfl, r1⟩ := repsB1 hv
      have e := r1.str
      subst e
      obtain ⟨u, rfl, ru⟩ := vals1 rv
      obtain ⟨t, rfl⟩ := ru
      have hsz : (S w).cps.size = w.length := by simp [S]
      have hn : (S w).cps.size ≤ sizeLine := by rw [hsz, ← LN_eq]; exact hl
      refine call_list_str (I.ok.hd hc) (S w) t (fun h' tk acc c' hk e hi => ?_) hn
      have hvals : Vals (w.map fun c => V.str (S [c])) acc.toList := by
        have el : acc.toList.length = w.length := by rw [Array.length_toList, ← hsz]; exact hi.1
        refine vals_of_at (by rw [List.length_map, el]) fun j x u hx hu => ?_
        obtain ⟨c, t2, hc2, rfl⟩ := hi.2 j u (by rw [← hu, Array.getElem?_toList])
        have e' : w[j]? = some c := by simpa [S] using hc2
        rw [List.getElem?_map, e'] at hx
        cases hx
        exact ⟨t2, rfl⟩
      refine ⟨.ref s.heap.objs.size, upd H s.heap.objs.size (.lst (w.map fun c => V.str (S [c]))), I.laid (t' := tk) hk (Nat.le_refl _) (show ObjOk X.prog X.w _ _ _ (.lst _) from ⟨?_, acc.toList, c', hvals, ?_⟩), rfl, q _ _ (I.hok.fresh (Nat.le_refl _)) ⟨_, rfl, ?_⟩⟩
      · rw [List.length_map, ← LN_eq]; exact hl
      · rw [Array.toArray_toList]; exact e
      · exact reps_ltx w
    · cases ez
  · cases ez
/-- sorted(a list of texts) -/
def leW (a b : Wd) : Bool := PySem.W.dataLe false (fun w : Wd => PyData.str (S w)) a b
def srtD : List D → Option D
  | [.lst xs] => (strsOf xs).bind fun ws => if ws.length ≤ LN then some (.lst ((ws.mergeSort leW).map .str)) else none
  | _ => none
theorem each_of_vals : ∀ {ws : List Wd} {us : List Value}, Vals (ws.map fun w => V.str (S w)) us → PySem.W.EachIs (fun v (w : Wd) => ∃ t, v = Value.str (S w) t) us ws
  | [], us, r => by rw [List.map_nil] at r; cases r; exact .nil
  | w :: ws, us, r => by
    rw [List.map_cons] at r
    cases r with
    | cons r1 r2 => exact .cons r1 (each_of_vals r2)
theorem vals_of_each : ∀ {ws : List Wd} {us : List Value}, PySem.W.EachIs (fun v (w : Wd) => ∃ t, v = Value.str (S w) t) us ws → Vals (ws.map fun w => V.str (S w)) us
  | _, _, .nil => by rw [List.map_nil]; exact .nil
  | _, _, .cons r1 r2 => by rw [List.map_cons]; exact .cons r1 (vals_of_each r2)
theorem cl_srt (hu : X.A.units + 64 < cLine) : CallR X (.builtin "sorted") (rCN X.K Φ srtD) := by
  intro pins s σ H vs us Q I rv ⟨F, ds, z, sm, hv, ez, q⟩
  unfold srtD at ez
  split at ez
  case h_1 xs =>
    obtain ⟨ws, h1, ez⟩ := Option.bind_eq_some_iff.mp ez
    split at ez
    case isTrue hl =>
      cases ez
      obtain ⟨v, rfl, r1⟩ := repsB1 hv
      obtain ⟨a, ys, rfl, h2, h3⟩ := r1.lst sm
      have e := strs_vs h1 h3
      rw [List.map_map] at e
      subst e
      obtain ⟨u, rfl, ru⟩ := vals1 rv
      cases ru
      obtain ⟨its, rvs, pl, _⟩ := I.list (.of h2)
      have ea := each_of_vals rvs
      refine PySem.W.sorted_data (bs := ws) (enc := fun w : Wd => PyData.str (S w)) (R := fun v (w : Wd) => ∃ t, v = Value.str (S w) t) pl.isList ea (ea.mono fun v w ⟨t, e⟩ => ⟨[], by rw [e]; exact .str _ _⟩) ?_ ?_ (by rw [← LN_eq]; exact hl) ?_ fun out ho eo => ?_
      · intro d hd d' hd'
        obtain ⟨w, _, rfl⟩ := List.mem_map.mp hd
        obtain ⟨w', _, rfl⟩ := List.mem_map.mp hd'
        rfl
      · right
        intro d hd
        obtain ⟨w, _, rfl⟩ := List.mem_map.mp hd
        exact ⟨by simp, fun xs => by simp⟩
      · intro b _
        show X.A.units + 2 + (PyData.str (S b)).depth < cLine
        have : (PyData.str (S b)).depth ≤ 1 := by simp [PyData.depth]
        omega
      · obtain ⟨ep, he'⟩ := PyProof.Rows.sortedAll_at s.heap its out.toArray
        have hlen : ((ws.mergeSort leW).map fun w => V.str (S w)).length ≤ sizeLine := by rw [List.length_map, List.length_mergeSort, ← LN_eq]; exact hl
        have hvo : Vals ((ws.mergeSort leW).map fun w => V.str (S w)) out := vals_of_each eo
        exact ⟨.ref _, upd H (s.heap.objs.size + 1) (.lst ((ws.mergeSort leW).map fun w => V.str (S w))), I.laid (t' := s.toks) (fun _ _ => PyProof.Rows.sortedAll_old) (Nat.le_succ _) ⟨hlen, out, ep, hvo, he'⟩, rfl, q _ _ (I.hok.fresh (Nat.le_succ _)) ⟨_, rfl, reps_strS _⟩⟩
    · cases ez
  · cases ez
end
end Cut
namespace Cut
open PySem PySem.Spec L2
open PyProof.Rows hiding St

/-! ### a comprehension with two fors -/
/-- where a comprehension stands: the list at A holds what is made so far -/
structure Lv (K : PySem.W.Frag) (Φ : Fx) (own : List Nat) (σ : St) (F1 H1 : Hp) (s1 : DS) (A : Addr) (F H : Hp) (s : DS) (acc : List D) (av : List V) : Prop where
  rel : Rel K Φ F (L2.wipe σ own) H (wipeD s own)
  sm : Same F1 F
  hA : H A = some (.lst av)
  ra : Reps K Φ.cc F acc av
  fA : F A = none
  ow : ∀ a, OwnAt (L2.wipe σ own) (wipeD s own) a → OwnAt σ s1 a
  kp : ∀ a o, Φ.not a → a ≠ A → H1 a = some o → H a = some o
  bn : ∀ a o, F a = some o → F1 a = some o ∨ H1 a = none ∨ OwnAt σ s1 a
section
variable {K : PySem.W.Frag} {mg : Str → Option Value} {Φ : Fx} {own vs vs1 : List Nat} {σ σ2 : St} {F1 H1 F H F3 H3 F5 H5 : Hp} {s1 s s3 s5 s6 : DS} {A : Addr} {acc acc' : List D} {av av' : List V}
theorem own_un (ew : L2.wipe σ2 own = L2.wipe σ own) {a : Addr} : OwnAt (L2.wipe σ own) (wipeD s own) a → ∃ j d, j ∉ own ∧ s.env[j]? = some (some (.own d)) ∧ σ2[j]? = some (some (.ref a)) := fun ⟨j, d, q1, q2⟩ => by
  by_cases hj : j ∈ own
  · have hl : j < s.env.length := by
      have := (List.getElem?_eq_some_iff.mp q1).1
      rwa [wipeD_wipeD] at this
    unfold wipeD at q1
    rw [wipeL_in _ own j hj hl] at q1
    cases q1
  · unfold wipeD at q1
    rw [wipeL_out _ own j hj] at q1
    rw [← ew, foldr_wipe, wipeL_out _ own j hj] at q2
    exact ⟨j, d, hj, q1, q2⟩
theorem Lv.no (L : Lv K Φ own σ F1 H1 s1 A F H s acc av) (R1 : Rel K Φ F1 σ H1 s1) {b : Addr} (q : H b = none) : H1 b = none := by
  cases y : H1 b with
  | none => rfl
  | some u =>
    have hbA : b ≠ A := fun e => by rw [e, L.hA] at q; cases q
    by_cases hn : Φ.not b
    · rw [L.kp b u hn hbA y] at q; cases q
    · have hs : Φ.hs = true := Classical.byContradiction fun z => hn (by unfold Fx.not; exact fun y => absurd y z)
      have sx := L.rel.srcH hs
      unfold Fx.not at hn
      by_cases ha : b = Φ.sa
      · subst ha; rw [sx.2.1] at q; cases q
      · by_cases hb : b = Φ.sb
        · subst hb; rw [sx.2.2] at q; cases q
        · exact absurd (fun _ => ⟨ha, hb⟩) hn
/-- a step of an expression in a turn -/
theorem Lv.step (R1 : Rel K Φ F1 σ H1 s1) (nA : Φ.not A) (noA : ¬ OwnAt σ s1 A) (L : Lv K Φ own σ F1 H1 s1 A F H s acc av) (g3 : Gr F H F3 H3) (ew : L2.wipe σ2 own = L2.wipe σ own) (ho2 : ∀ a, OwnAt σ2 s3 a → OwnAt (L2.wipe σ own) (wipeD s own) a)
    (e5 : ESt Φ σ2 s3 F3 H3 s5 F5 H5) (R5 : Rel K Φ F5 σ2 H5 s5) : Lv K Φ own σ F1 H1 s1 A F5 H5 s5 acc av := by
  have hA' : H3 A = some (.lst av) := g3.keep _ _ L.hA
  have fA3 : F3 A = none := by
    cases q : F3 A with
    | none => rfl
    | some o => rcases g3.born A o q with y | y
                · rw [L.fA] at y; cases y
                · rw [L.hA] at y; cases y
  refine ⟨by rw [← ew]; exact R5.wipe own, L.sm.trans (g3.mono.trans e5.mono), e5.keep _ _ nA hA', (L.ra.mono g3.mono).mono e5.mono, ?_, fun a h => ?_, fun a o hn ha q => e5.keep a o hn (g3.keep _ _ (L.kp a o hn ha q)), fun a o q => ?_⟩
  · cases q : F5 A with
    | none => rfl
    | some o => rcases e5.born A o q with y | y | y
                · rw [fA3] at y; cases y
                · rw [hA'] at y; cases y
                · exact absurd (L.ow A (ho2 A y)) noA
  · obtain ⟨j, d, _, q1, q2⟩ := own_un ew h
    exact L.ow a (ho2 a (e5.own a ⟨j, d, q1, q2⟩))
  · rcases e5.born a o q with y | y | y
    · rcases g3.born a o y with y | y
      · exact L.bn a o y
      · exact .inr (.inl (L.no R1 y))
    · exact .inr (.inl (L.no R1 (g3.keep.free y)))
    · exact .inr (.inr (L.ow a (ho2 a y)))
theorem Lv.app (R1 : Rel K Φ F1 σ H1 s1) (nA : Φ.not A) (noA : ¬ OwnAt σ s1 A) (h0A : Φ.H0 A = none) (L : Lv K Φ own σ F1 H1 s1 A F H s acc av) {d : D} {v : V} (r : Rep K Φ.cc F d v) : Lv K Φ own σ F1 H1 s1 A F (upd H A (.lst (av ++ [v]))) s (acc ++ [d]) (av ++ [v]) :=
  ⟨L.rel.junk L.fA h0A nA (fun z => noA (L.ow A z)) fun b hb => upd_ne hb, L.sm, upd_same, L.ra.app (reps_one r), L.fA, L.ow, fun a o hn ha q => by rw [upd_ne ha]; exact L.kp a o hn ha q, L.bn⟩
theorem wipeD_sub (hv : ∀ i, i ∈ vs1 → i ∈ own) : wipeD (wipeD s vs1) own = wipeD s own := by
  unfold wipeD
  congr 1
  dsimp only
  apply lst_ext
  intro j
  by_cases hj : j ∈ own
  · by_cases hl : j < s.env.length
    · rw [wipeL_in _ own j hj (by rw [wipeL_len]; exact hl), wipeL_in _ own j hj hl]
    · rw [List.getElem?_eq_none (by rw [wipeL_len, wipeL_len]; omega), List.getElem?_eq_none (by rw [wipeL_len]; omega)]
  · rw [wipeL_out _ own j hj, wipeL_out _ own j hj, wipeL_out _ vs1 j fun h => hj (hv j h)]
/-- the inner loop's end is a place of the outer one -/
theorem Lv.up (R1 : Rel K Φ F1 σ H1 s1) (hv : ∀ i, i ∈ vs1 → i ∈ own) (ew : L2.wipe σ2 own = L2.wipe σ own) (hown : ∀ a, OwnAt σ2 s5 a → OwnAt σ s1 a) (L : Lv K Φ own σ F1 H1 s1 A F5 H5 s5 acc av) (I : Lv K Φ vs1 σ2 F5 H5 s5 A F H s6 acc' av') :
    Lv K Φ own σ F1 H1 s1 A F H s6 acc' av' := by
  have e1 : L2.wipe (L2.wipe σ2 vs1) own = L2.wipe σ own := wipe_ext (by rw [wipe_length, ← ew, wipe_length]) fun j hj => by
    rw [← ew, foldr_wipe, wipeL_out _ vs1 j fun h => hj (hv j h), foldr_wipe, wipeL_out _ own j hj]
  refine ⟨?_, L.sm.trans I.sm, I.hA, I.ra, I.fA, fun a h => ?_, fun a o hn ha q => I.kp a o hn ha (L.kp a o hn ha q), fun a o q => ?_⟩
  · have := I.rel.wipe own
    rw [e1, wipeD_sub hv] at this
    exact this
  · obtain ⟨j, d, hj, q1, q2⟩ := own_un ew h
    refine hown a (I.ow a ⟨j, d, ?_, ?_⟩)
    · unfold wipeD; rw [wipeL_out _ vs1 j fun h => hj (hv j h)]; exact q1
    · rw [foldr_wipe, wipeL_out _ vs1 j fun h => hj (hv j h)]; exact q2
  · rcases I.bn a o q with y | y | y
    · exact L.bn a o y
    · exact .inr (.inl (L.no R1 y))
    · exact .inr (.inr (hown a y))
/-- the inner loop -/
theorem lc_in {t : D → DS → Option DS} {c : DS → Rs Bool} {f : DS → Rs D} {items accF : List D} {s2 : DS} {J : It} {Fin : Hp → Prop}
    (hvs : ∀ v ∈ vs, v ∈ own) (R1 : Rel K Φ F1 σ H1 s1) (ij : ItD K Φ.cc F1 J items) (run : lcL own t c f items acc s = .ok accF s2)
    (nA : Φ.not A) (noA : ¬ OwnAt σ s1 A) (h0A : Φ.H0 A = none) (L0 : Lv K Φ own σ F1 H1 s1 A F H s acc av)
    (fin : ∀ F H av, Lv K Φ own σ F1 H1 s1 A F H s2 accF av → Fin H) :
    ∃ W : Nat → Nat → Hp → Prop, (∃ m, W 0 m H) ∧ ∀ i m H, W i m H →
      (J.stop i H ∧ Fin H) ∨ (J.go i H ∧ ∃ Nx : Hp → Prop, (∀ H', Nx H' → ∃ m', m' < m ∧ W (i + 1) m' H') ∧ ∀ x H', J.yld i H x H' → tG K Φ vs t x (L2.wipe σ own) H' fun σ2 H2 => L2.wipe σ2 own = L2.wipe σ own ∧ tTs K mg Φ WF c σ2 H2 fun b H3 =>
        if b = true then tD K mg Φ WF f σ2 H3 fun y H4 => ∃ acc, H4 A = some (.lst acc) ∧ acc.length < sizeLine ∧ Nx (upd H4 A (.lst (acc ++ [y]))) else Nx H3) := by
  refine ⟨fun i m H => m = items.length - i ∧ i ≤ items.length ∧ ∃ F s acc av, Lv K Φ own σ F1 H1 s1 A F H s acc av ∧ lcL own t c f (items.drop i) acc s = .ok accF s2, ⟨_, rfl, Nat.zero_le _, F, s, acc, av, L0, by rw [List.drop_zero]; exact run⟩, ?_⟩
  rintro i m H ⟨rfl, hi, F, s, acc, av, L, hrun⟩
  by_cases hlt : i < items.length
  · have ed : items.drop i = items[i] :: items.drop (i + 1) := List.drop_eq_getElem_cons hlt
    rw [ed] at hrun
    refine .inr ⟨ij.go i F H hlt L.sm L.rel.fh, fun H' => i + 1 ≤ items.length ∧ ∃ F s acc av, Lv K Φ own σ F1 H1 s1 A F H' s acc av ∧ lcL own t c f (items.drop (i + 1)) acc s = .ok accF s2, fun H' h => ⟨items.length - (i + 1), by omega, rfl, h⟩, fun x H' y => ?_⟩
    obtain ⟨d, F3, ed3, g3, r3⟩ := ij.yld i F H x H' hlt L.sm L.rel.fh y
    rw [List.getElem?_eq_getElem hlt] at ed3
    cases ed3
    unfold lcL at hrun
    cases z : t items[i] (wipeD s own) with
    | none => rw [z] at hrun; cases hrun
    | some s3 =>
      rw [z] at hrun
      dsimp only at hrun
      obtain ⟨b, s4, ec, hrun⟩ := noX_ok hrun
      refine ⟨F3, wipeD s own, _, s3, L.rel.gr g3, r3, z, fun σ2 hl2 hj2 ho2 R3 => ?_⟩
      have ew : L2.wipe σ2 own = L2.wipe σ own := wipe_ext hl2 fun j hj => hj2 j fun q => hj (hvs j q)
      refine ⟨ew, F3, s3, R3, ?_⟩
      rw [ec]
      intro F4 H4 R4 e4
      cases b with
      | false =>
        dsimp only
        rw [if_neg Bool.false_ne_true] at hrun ⊢
        exact ⟨hlt, F4, s4, acc, av, L.step R1 nA noA g3 ew ho2 e4 R4, hrun⟩
      | true =>
        dsimp only
        rw [if_pos rfl] at hrun ⊢
        obtain ⟨yv, s5, ef, hrun⟩ := noX_ok hrun
        split at hrun
        case isTrue hlen =>
          refine ⟨F4, s4, R4, ?_⟩
          rw [ef]
          intro F5 H5 R5 e5 v rv
          have L5 := L.step R1 nA noA g3 ew ho2 (e4.trans R4 e5) R5
          exact ⟨av, L5.hA, by rw [L.ra.len, ← LN_eq]; exact hlen, hlt, F5, s5, acc ++ [yv], av ++ [v], L5.app R1 nA noA h0A rv, hrun⟩
        · cases hrun
  · have ei : i = items.length := by omega
    subst ei
    rw [List.drop_length] at hrun
    unfold lcL at hrun
    cases hrun
    exact .inl ⟨ij.stop _ F H rfl L.sm L.rel.fh, fin F H av L⟩
/-- the turns of [elt for tg in .. if .. for tg1 in .. if ..] -/
def lc2L (own vs1 : List Nat) (t : D → DS → Option DS) (c : DS → Rs Bool) (fi1 : DS → Rs (List D)) (t1 : D → DS → Option DS) (c1 : DS → Rs Bool) (f : DS → Rs D) : List D → List D → DS → Rs (List D)
  | [], acc, s => .ok acc s
  | d :: r, acc, s => match t d (wipeD s own) with
    | none => .bad
    | some s => (noX (c s)).bind fun b s => if b = true then (noX (fi1 s)).bind fun items1 s => (if calmD vs1 s = true then (noX (lcL vs1 t1 c1 f items1 acc s)).bind fun acc s => lc2L own vs1 t c fi1 t1 c1 f r acc s else .bad) else lc2L own vs1 t c fi1 t1 c1 f r acc s
def lc2S (own vs1 : List Nat) (fi : DS → Rs (List D)) (t : D → DS → Option DS) (c : DS → Rs Bool) (fi1 : DS → Rs (List D)) (t1 : D → DS → Option DS) (c1 : DS → Rs Bool) (f : DS → Rs D) : DS → Rs D := fun s => (fi s).bind fun items s1 =>
  if calmD own s1 = true then (noX (lc2L own vs1 t c fi1 t1 c1 f items [] s1)).bind fun acc s2 => .ok (.lst acc) (restD own s1 s2) else .bad
theorem lc2_turns {t t1 : D → DS → Option DS} {c c1 : DS → Rs Bool} {fi1 : DS → Rs (List D)} {f : DS → Rs D} {s2 : DS} {items accF : List D} {J : It} {Q : VK} {w1 : List Nat}
    (hvs : ∀ v ∈ vs, v ∈ own) (hv1 : ∀ v ∈ vs1, v ∈ own) (hw1 : ∀ v ∈ w1, v ∈ vs1) (R1 : Rel K Φ F1 σ H1 s1) (ij : ItD K Φ.cc F1 J items) (hc : calmD own s1 = true) (run : lc2L own vs1 t c fi1 t1 c1 f items [] s1 = .ok accF s2)
    (fin : ∀ F' H', Rel K Φ F' σ H' (restD own s1 s2) → ESt Φ σ s1 F1 H1 (restD own s1 s2) F' H' → ∀ p o, H' p = none → CellO K Φ.cc F' o (.lst accF) → Q (.ref p) (upd H' p o))
    (A : Addr) (hA : H1 A = none) : ∃ W : Nat → Nat → Hp → Prop, (∃ m, W 0 m (upd H1 A (.lst []))) ∧ ∀ i m H, W i m H →
      (J.stop i H ∧ Q (.ref A) H) ∨ (J.go i H ∧ ∃ Nx : Hp → Prop, (∀ H', Nx H' → ∃ m', m' < m ∧ W (i + 1) m' H') ∧ ∀ x H', J.yld i H x H' → tG K Φ vs t x (L2.wipe σ own) H' fun σ2 H2 => L2.wipe σ2 own = L2.wipe σ own ∧ tTs K mg Φ WF c σ2 H2 fun b H3 =>
        if b = true then tI K mg Φ WF fi1 σ2 H3 fun J1 H4 => ∃ W1 : Nat → Nat → Hp → Prop, (∃ m, W1 0 m H4) ∧ ∀ j k H, W1 j k H →
          (J1.stop j H ∧ Nx H) ∨ (J1.go j H ∧ ∃ Nx1 : Hp → Prop, (∀ H', Nx1 H' → ∃ k', k' < k ∧ W1 (j + 1) k' H') ∧ ∀ x H', J1.yld j H x H' → tG K Φ w1 t1 x (L2.wipe σ2 vs1) H' fun σ3 H5 => L2.wipe σ3 vs1 = L2.wipe σ2 vs1 ∧ tTs K mg Φ WF c1 σ3 H5 fun b H6 =>
            if b = true then tD K mg Φ WF f σ3 H6 fun y H7 => ∃ acc, H7 A = some (.lst acc) ∧ acc.length < sizeLine ∧ Nx1 (upd H7 A (.lst (acc ++ [y]))) else Nx1 H6)
        else Nx H3) := by
  have h0A := R1.h0 hA
  have nA : Φ.not A := fun hs => by
    have sx := R1.srcH hs
    constructor
    · intro z; rw [z, sx.2.1] at hA; cases hA
    · intro z; rw [z, sx.2.2] at hA; cases hA
  have noA : ¬ OwnAt σ s1 A := fun z => by obtain ⟨_, _, o, h⟩ := R1.ownH z; rw [hA] at h; cases h
  have L0 : Lv K Φ own σ F1 H1 s1 A F1 (upd H1 A (.lst [])) s1 [] [] :=
    ⟨(R1.wipe own).junk (R1.fh.free hA) h0A nA (fun z => noA (wipe_own hc A z)) fun b hb => upd_ne hb, Same.refl _, upd_same, reps_nil.mpr rfl, R1.fh.free hA, wipe_own hc, fun a o _ ha e => by rw [upd_ne ha]; exact e, fun a o e => .inl e⟩
  refine ⟨fun i m H => m = items.length - i ∧ i ≤ items.length ∧ ∃ F s acc av, Lv K Φ own σ F1 H1 s1 A F H s acc av ∧ lc2L own vs1 t c fi1 t1 c1 f (items.drop i) acc s = .ok accF s2, ⟨_, rfl, Nat.zero_le _, F1, s1, [], [], L0, by rw [List.drop_zero]; exact run⟩, ?_⟩
  rintro i m H ⟨rfl, hi, F, s, acc, av, L, hrun⟩
  by_cases hlt : i < items.length
  · have ed : items.drop i = items[i] :: items.drop (i + 1) := List.drop_eq_getElem_cons hlt
    rw [ed] at hrun
    refine .inr ⟨ij.go i F H hlt L.sm L.rel.fh, fun H' => i + 1 ≤ items.length ∧ ∃ F s acc av, Lv K Φ own σ F1 H1 s1 A F H' s acc av ∧ lc2L own vs1 t c fi1 t1 c1 f (items.drop (i + 1)) acc s = .ok accF s2, fun H' h => ⟨items.length - (i + 1), by omega, rfl, h⟩, fun x H' y => ?_⟩
    obtain ⟨d, F3, ed3, g3, r3⟩ := ij.yld i F H x H' hlt L.sm L.rel.fh y
    rw [List.getElem?_eq_getElem hlt] at ed3
    cases ed3
    unfold lc2L at hrun
    cases z : t items[i] (wipeD s own) with
    | none => rw [z] at hrun; cases hrun
    | some s3 =>
      rw [z] at hrun
      dsimp only at hrun
      obtain ⟨b, s4, ec, hrun⟩ := noX_ok hrun
      refine ⟨F3, wipeD s own, _, s3, L.rel.gr g3, r3, z, fun σ2 hl2 hj2 ho2 R3 => ?_⟩
      have ew : L2.wipe σ2 own = L2.wipe σ own := wipe_ext hl2 fun j hj => hj2 j fun q => hj (hvs j q)
      refine ⟨ew, F3, s3, R3, ?_⟩
      rw [ec]
      intro F4 H4 R4 e4
      cases b with
      | false =>
        dsimp only
        rw [if_neg Bool.false_ne_true] at hrun ⊢
        exact ⟨hlt, F4, s4, acc, av, L.step R1 nA noA g3 ew ho2 e4 R4, hrun⟩
      | true =>
        dsimp only
        rw [if_pos rfl] at hrun ⊢
        obtain ⟨items1, s5, ei, hrun⟩ := noX_ok hrun
        split at hrun
        case isTrue hcal =>
          obtain ⟨acc', s6, er, hrun⟩ := noX_ok hrun
          refine ⟨F4, s4, R4, ?_⟩
          rw [ei]
          intro F5 H5 R5 e5 J1 ij1
          have L5 := L.step R1 nA noA g3 ew ho2 (e4.trans R4 e5) R5
          have hown : ∀ a, OwnAt σ2 s5 a → OwnAt σ s1 a := fun a q => L.ow a (ho2 a (e4.own a (e5.own a q)))
          have I0 : Lv K Φ vs1 σ2 F5 H5 s5 A F5 H5 s5 acc av := ⟨R5.wipe vs1, Same.refl _, L5.hA, L5.ra, L5.fA, wipe_own hcal, fun a o _ _ e => e, fun a o e => .inl e⟩
          exact lc_in hw1 R5 ij1 er nA (fun z => noA (hown A z)) h0A I0 fun F H av' I => ⟨hlt, F, s6, acc', av', Lv.up R1 hv1 ew hown L5 I, hrun⟩
        · cases hrun
  · have ei : i = items.length := by omega
    subst ei
    rw [List.drop_length] at hrun
    unfold lc2L at hrun
    cases hrun
    refine .inl ⟨ij.stop _ F H rfl L.sm L.rel.fh, ?_⟩
    have hl : s2.env.length = s1.env.length := by
      have h1 := L.rel.len
      rw [wipe_length, wipeD_wipeD, R1.len] at h1
      exact h1.symm
    obtain ⟨Rb, ob⟩ := R1.back (own := own) hc L.rel L.sm (by rw [wipeD_wipeD]; exact hl) (fun j hj => by rw [foldr_wipe, wipeL_out _ own j hj]) (wipe_length _ _) L.ow
    rw [restD_wipe] at Rb ob
    let H' : Hp := fun b => if b = A then none else H b
    have hH' : upd H' A (.lst av) = H := by
      funext b
      unfold upd
      by_cases hb : b = A
      · subst hb; rw [if_pos rfl]; exact L.hA.symm
      · rw [if_neg hb]; exact if_neg hb
    have Rj : Rel K Φ F σ H' (restD own s1 s2) := Rb.junk L.fA h0A nA (fun z => noA (L.ow A (ob A z))) fun b hb => if_neg hb
    have := fin F H' Rj ⟨L.sm, fun a o hn e => by
      show (if a = A then none else H a) = _
      rw [if_neg (ne_of_none e hA)]
      exact L.kp a o hn (ne_of_none e hA) e, L.bn, fun a z => L.ow a (ob a z)⟩ A (.lst av) (if_pos rfl) ⟨av, rfl, L.ra⟩
    rw [hH'] at this
    exact this
end
section
variable {X : Cx} {Φ : Fx} {W : WX} {pos : Pos}
theorem df_lc2 {elt tg iter tg1 iter1 : Expr} {ifs ifs1 : List Expr} {scope : Scope} {own : List (Str × Nat)} {vs vs1 w1 : List Nat} {fi fi1 : DS → Rs (List D)} {t t1 : D → DS → Option DS} {c c1 : DS → Rs Bool} {f : DS → Rs D} (hc : X.calm = true) (hN : X.N.Nodup) (hvs : ∀ v ∈ vs, v ∈ own.map (·.2)) (hv1 : ∀ v ∈ vs1, v ∈ own.map (·.2)) (hw1 : ∀ v ∈ w1, v ∈ vs1)
    (hi : DI X Φ W tg iter fi) (ok : BlkOk X.N X.env.scope scope own)
    (hg : ∀ (s : Shared) (H : Hp) (C : Addr) (cl : List (Str × Addr)) (fp : List Addr), DG (X.blk s H scope (compEnvC scope cl C X.env) fp) Φ tg vs t) (ht : ∀ (s : Shared) (H : Hp) (C : Addr) (cl : List (Str × Addr)) (fp : List Addr), DTs (X.blk s H scope (compEnvC scope cl C X.env) fp) Φ WF ifs c)
    (hi1 : ∀ (s : Shared) (H : Hp) (C : Addr) (cl : List (Str × Addr)) (fp : List Addr), DI (X.blk s H scope (compEnvC scope cl C X.env) fp) Φ WF tg1 iter1 fi1)
    (hg1 : ∀ (s : Shared) (H : Hp) (C : Addr) (cl : List (Str × Addr)) (fp : List Addr), DG (X.blk s H scope (compEnvC scope cl C X.env) fp) Φ tg1 w1 t1) (ht1 : ∀ (s : Shared) (H : Hp) (C : Addr) (cl : List (Str × Addr)) (fp : List Addr), DTs (X.blk s H scope (compEnvC scope cl C X.env) fp) Φ WF ifs1 c1)
    (he : ∀ (s : Shared) (H : Hp) (C : Addr) (cl : List (Str × Addr)) (fp : List Addr), DE (X.blk s H scope (compEnvC scope cl C X.env) fp) Φ WF elt f) (hs : ∀ x, foldedSetIterable iter X.env x = pure x) (hs1 : ∀ env x, foldedSetIterable iter1 env x = pure x) :
    DF X Φ W (.ListComp elt [⟨tg, iter, ifs, 0⟩, ⟨tg1, iter1, ifs1, 0⟩] scope pos) (lc2S (own.map (·.2)) vs1 fi t c fi1 t1 c1 f) :=
  PE.imp (pe_lc2 hc hN hi ok hv1 hg ht hi1 hg1 ht1 he hs hs1) fun σ H Q ⟨F, s, R, q⟩ => ⟨F, s, R, (Hold.bind q).imp fun F1 H1 items s1 R1 e1 h1 J ij A hA => by
    split at h1
    case isTrue hcd =>
      cases run : lc2L (own.map (·.2)) vs1 t c fi1 t1 c1 f items [] s1 with
      | ok acc s2 =>
        rw [run] at h1
        exact lc2_turns (mg := X.mg) hvs hv1 hw1 R1 ij hcd run (fun F' H' R' e' => h1 F' H' R' e') A hA
      | exc _ _ => rw [run] at h1; exact h1.elim
      | bad => rw [run] at h1; exact h1.elim
    · exact h1.elim⟩
end
end Cut
namespace Cut
open PySem PySem.Spec L2
open PyProof.Rows hiding St
/-! ### f() -/
section
variable {X : Cx} {CX : CXT} {k : Nat} {f : Addr} {fd : FuncData} {ps : List Str} {sp : Sp} {dvs : List V} {ds : List Value} {E : St → XK} {x : Str} {p pos : Pos}
theorem pe_callSD0 (F : FnOk X.prog X.w X.K X.mg X.base CX k f fd ps sp) (hr : Room k X.A) (hg : Gl X x) (hm : X.mg x = some (.ref f)) (hk : PySem.W.keepIn X.K (.ref f) = true) (hb : Binds X.K fd ps ds) (hd : Vals dvs ds) (hx : ∀ σ, PassesAt CX X σ (E σ))
    (hdb : (x == ("__debug__" : Str)) = false) : PE X (.Call (.Name x p) [] [] pos) (tCallSD sp dvs E tNil) := by
  refine ⟨fun pins s σ H Q I h => ?_⟩
  refine wpAny_Call_Name_kw (ld_glob I hg hm ?_ hdb)
  exact PySem.W.callWith_K0 I.kIn hk (run_fnSD (us := []) F hr hb hd (hx σ) I .nil h)
end
section
variable {X : Cx} {Φ : Fx} {W : WX} {pos : Pos} {k n : Nat}
theorem de_call0 {x : Str} {fn : PF} {p : Pos} (G : GoodP X.prog X.w X.K X.mg X.base Φ.cc k x fn n) (hr : Room k X.A) (tk : Takes X W) (hg : Gl X x) (hdb : (x == ("__debug__" : Str)) = false) : DE X Φ W (.Call (.Name x p) [] [] pos) (callP fn n argsNil) := by
  obtain ⟨fa, fd, ps, hm, F, hk, hb⟩ := G.ex
  refine PE.imp (pe_callSD0 (E := WE W) F hr hg hm hk hb .nil (fun σ => passAt tk σ) hdb) fun σ H Q ⟨F, s, R, h⟩ => ?_
  have h1 : Hold X.K X.mg Φ W F σ H s (if ([] : List D).length = n then (match fn [] with
    | .ok d => .ok d s
    | .exc x => .exc x s
    | .bad => .bad) else .bad) fun F' H' d _ => ∀ v, Rep X.K Φ.cc F' d v → Q v H' := h
  split at h1
  case isTrue hl =>
    refine ⟨F, [], R.fh, reps_nil.mpr rfl, hl, ?_⟩
    cases hf : fn [] with
    | ok d =>
      rw [hf] at h1
      exact fun F2 H2 v g rv => h1 F2 H2 (R.gr g) g.est v rv
    | exc xx =>
      rw [hf] at h1
      exact fun F2 H2 cls od g x => h1 F2 H2 cls od (R.gr g) g.mono x
    | bad => rw [hf] at h1; exact h1.elim
  · exact h1.elim
end
end Cut
namespace Cut
open PySem PySem.Spec L2
open PyProof.Rows hiding St

/-! ### what stands around -/
structure Gam where
  p : List (PF × Nat)
  s : List (SF × Nat)
  m : List (PF × Nat)
def Gam.pf (Γ : Gam) (j : Nat) : PF × Nat := Γ.p.getD j (fun _ => .bad, 0)
def Gam.sf (Γ : Gam) (j : Nat) : SF × Nat := Γ.s.getD j (fun _ _ => .bad, 0)
def Gam.mf (Γ : Gam) (j : Nat) : PF × Nat := Γ.m.getD j (fun _ => .bad, 0)
structure SE where
  N : List Str
  sc : Scope
  blk : Option Scope
structure Tb where
  gi : List (Str × Int)
  gs : List (Str × Wd)
  pfs : List (Str × Nat)
  sfs : List (Str × Nat)
  blts : List Str
  cod : Bool
  mks : List (Str × Nat)
  props : List (Str × Fl)
def SE.kind (se : SE) (x : Str) : Option NameKind := se.sc.names.lookup x
def SE.vis (se : SE) (i : Nat) (x : Str) : Bool := decide (se.N[i]? = some x) && (decide (se.kind x = some .local) || decide (se.kind x = some .cell) || decide (se.kind x = some .free)) && !(x == ("__debug__" : Str)) && !(x == ("__classdict__" : Str))
def SE.loc (se : SE) (i : Nat) (x : Str) : Bool := decide (se.N[i]? = some x) && (decide (se.kind x = some .local) || (decide (se.kind x = some .cell) && (match se.blk with
  | none => true
  | some sc => sc.names.lookup x == some .cell)))
def SE.gl (se : SE) (x : Str) : Bool := decide (se.kind x = some .globalImplicit) && !(x == ("__debug__" : Str)) && !decide (x = ("__name__" : Str))
def SE.blt (se : SE) (tb : Tb) (x : Str) : Bool := se.gl x && decide (x ∈ tb.blts)
def notStar : Expr → Bool
  | .Starred _ _ => false
  | _ => true
theorem star_cons {e : Expr} (h : notStar e = true) (es : List Expr) (env : Env) : starEach (e :: es) env = (false, eval e env) :: starEach es env := by
  cases e <;> first | rfl | cases h
theorem star_any {es : List Expr} (h : es.all notStar = true) (env : Env) (pos : Pos) : (backTo pos (starEach es env)).any (·.1) = false := by
  induction es with
  | nil => rfl
  | cons e r ih =>
    rw [List.all_cons, Bool.and_eq_true] at h
    rw [star_cons h.1]
    show (false || (backTo pos (starEach r env)).any (·.1)) = false
    rw [ih h.2]; rfl

inductive Md where | e | b | n deriving DecidableEq
def isTupE : Expr → Bool
  | .Tuple _ _ _ => true
  | _ => false
theorem isTup_of {e : Expr} (h : isTupE e = true) : ∃ es k p, e = .Tuple es k p := by
  cases e <;> first | exact ⟨_, _, _, rfl⟩ | cases h
abbrev noneE : Expr := .Constant .none 0 ⟨0, 0, 0, 0⟩
/-- the parts of an expression: one read in some way, and arguments -/
structure Ps where
  e : Expr
  m : Md
  es : List Expr
  b : Bool
  fr : Bool
inductive Mt where | tupIdx deriving DecidableEq
def Mt.rc : Mt → Rc | .tupIdx => .tup
def Mt.nm : Mt → Str | .tupIdx => "index"
def Mt.fr : Mt → Bool | .tupIdx => false
def Mt.f : Mt → D → List D → Option D | .tupIdx => Cut.tupIdx
inductive Xo where
  | fld (f : Fl) | prop (x : Str) (f : Fl) | mk (j : Nat) | mt (m : Mt) | callB (j : Nat) | callSB (j i : Nat) | lrg | ltx | srt | call0 (j : Nat)
def Xo.ev (Γ : Gam) : Xo → (DS → Rs D) → (DS → Rs (List D)) → DS → Rs D
  | .fld f, a, _ => fldS f a
  | .prop _ f, a, _ => fldS f a
  | .mk j, _, g => callP (Γ.mf j).1 (Γ.mf j).2 g
  | .mt m, a, g => calW m.rc m.f a g
  | .callB j, _, g => callPB (Γ.pf j).1 (Γ.pf j).2 g
  | .callSB j i, _, g => Cut.callSB i (Γ.sf j).1 (Γ.sf j).2 g
  | .lrg, _, g => calB lrgD g
  | .ltx, _, g => calB ltxD g
  | .srt, _, g => calB srtD g
  | .call0 j, _, _ => callP (Γ.pf j).1 (Γ.pf j).2 argsNil
def asAttr : Expr → Option (Expr × Str)
  | .Attribute o x _ => some (o, x)
  | _ => none
theorem asAttr_of {e o : Expr} {x : Str} (h : asAttr e = some (o, x)) : ∃ pos, e = .Attribute o x pos := by
  cases e <;> first | (cases h; exact ⟨_, rfl⟩) | cases h
/-- f(a, ..), f a name -/
def asCall : Expr → Option (Str × Pos × Expr × List Expr × Pos)
  | .Call (.Name x p) (y :: ys) [] pos => some (x, p, y, ys, pos)
  | _ => none
theorem asCall_of {e y : Expr} {x : Str} {p pos : Pos} {ys : List Expr} (h : asCall e = some (x, p, y, ys, pos)) : e = .Call (.Name x p) (y :: ys) [] pos := by
  unfold asCall at h
  split at h
  · cases h; rfl
  · cases h
/-- f(h, ..), f and h names -/
def asCallH : Expr → Option (Str × Pos × Str × Pos × List Expr × Pos)
  | .Call (.Name x p) (.Name h q :: ys) [] pos => some (x, p, h, q, ys, pos)
  | _ => none
theorem asCallH_of {e : Expr} {x h : Str} {p q pos : Pos} {ys : List Expr} (hh : asCallH e = some (x, p, h, q, ys, pos)) : e = .Call (.Name x p) (.Name h q :: ys) [] pos := by
  unfold asCallH at hh
  split at hh
  · cases hh; rfl
  · cases hh
/-- o.m(a, ..) -/
def asMeth : Expr → Option (Expr × Str × Pos × Expr × List Expr × Pos)
  | .Call (.Attribute o x ap) (y :: ys) [] pos => some (o, x, ap, y, ys, pos)
  | _ => none
theorem asMeth_of {e o y : Expr} {x : Str} {ap pos : Pos} {ys : List Expr} (h : asMeth e = some (o, x, ap, y, ys, pos)) : e = .Call (.Attribute o x ap) (y :: ys) [] pos := by
  unfold asMeth at h
  split at h
  · cases h; rfl
  · cases h
/-- f(r(a, b)), f and r names -/
def asRg : Expr → Option (Str × Pos × Str × Pos × Expr × Expr × Pos × Pos)
  | .Call (.Name x p) [.Call (.Name r p2) [a, b] [] pos2] [] pos => some (x, p, r, p2, a, b, pos2, pos)
  | _ => none
theorem asRg_of {e a b : Expr} {x r : Str} {p p2 pos2 pos : Pos} (h : asRg e = some (x, p, r, p2, a, b, pos2, pos)) : e = .Call (.Name x p) [.Call (.Name r p2) [a, b] [] pos2] [] pos := by
  unfold asRg at h
  split at h
  · cases h; rfl
  · cases h
/-- f(), f a name -/
def asCall0 : Expr → Option (Str × Pos × Pos)
  | .Call (.Name x p) [] [] pos => some (x, p, pos)
  | _ => none
theorem asCall0_of {e : Expr} {x : Str} {p pos : Pos} (h : asCall0 e = some (x, p, pos)) : e = .Call (.Name x p) [] [] pos := by
  unfold asCall0 at h
  split at h
  · cases h; rfl
  · cases h
def Xo.parse (tb : Tb) (se : SE) : Xo → Expr → Option Ps
  | .fld f, e => (asAttr e).bind fun (o, x) => if tb.cod && x = f.nm && notCall0 o then some ⟨o, .b, [], false, false⟩ else none
  | .prop y f, e => (asAttr e).bind fun (o, x) => if tb.cod && x = y && notCall0 o && decide ((y, f) ∈ tb.props) then some ⟨o, .b, [], false, false⟩ else none
  | .mk j, e => (asCall e).bind fun (x, _, y, ys, _) => if se.gl x && decide ((tb.mks[j]?).map (·.1) = some x) && (y :: ys).all notStar then some ⟨noneE, .e, y :: ys, false, false⟩ else none
  | .mt m, e => (asMeth e).bind fun (o, x, ap, y, ys, pos) => if x = m.nm && notCallE o && (ap.endLine == pos.line) && (y :: ys).all notStar && few (y :: ys).length then some ⟨o, .b, y :: ys, true, m.fr⟩ else none
  | .callB j, e => (asCall e).bind fun (x, _, y, ys, _) => if se.gl x && decide ((tb.pfs[j]?).map (·.1) = some x) && (y :: ys).all notStar then some ⟨noneE, .e, y :: ys, true, false⟩ else none
  | .callSB j i, e => (asCallH e).bind fun (x, _, h, _, ys, _) => if se.gl x && decide ((tb.sfs[j]?).map (·.1) = some x) && se.vis i h && ys.all notStar then some ⟨noneE, .e, ys, true, false⟩ else none
  | .lrg, e => (asRg e).bind fun (x, _, r, _, a, b, _, _) => if x = "list" && r = "range" && se.blt tb x && se.blt tb r && notStar a && notStar b then some ⟨noneE, .e, [a, b], true, true⟩ else none
  | .ltx, e => (asCall e).bind fun (x, _, y, ys, _) => if x = "list" && se.blt tb x && (y :: ys).all notStar then some ⟨noneE, .e, y :: ys, true, true⟩ else none
  | .call0 j, e => (asCall0 e).bind fun (x, _, _) => if se.gl x && decide ((tb.pfs[j]?).map (·.1) = some x) then some ⟨noneE, .e, [], true, false⟩ else none
  | .srt, e => (asCall e).bind fun (x, _, y, ys, _) => if x = "sorted" && se.blt tb x && (y :: ys).all notStar then some ⟨noneE, .e, y :: ys, true, true⟩ else none
/-! #### what is walked -/
inductive Io where
  | enu
def Io.ev (Γ : Gam) : Io → (DS → Rs D) → (DS → Rs (List D)) → DS → Rs (List D)
  | .enu, _, g => rngI enuArgs g
def Io.parse (tb : Tb) (se : SE) (tt : Bool) : Io → Expr → Option Ps
  | .enu, e => (asCall e).bind fun (x, _, y, ys, _) => if x = "enumerate" && tt && se.blt tb x && (y :: ys).all notStar then some ⟨noneE, .e, y :: ys, false, false⟩ else none
end Cut
namespace Cut
open PySem PySem.Spec L2
open PyProof.Rows hiding St

/-! ### the middle language -/
inductive Bo where | add | sub | mul | fdiv | mod deriving DecidableEq
inductive BoN where | cat | rep deriving DecidableEq
inductive Co where | eq | ne | lt | le | gt | ge | isN | notN | inn | nin deriving DecidableEq
inductive Bi where | len | all | any | sum | max2 | min2 | max | min deriving DecidableEq
inductive Tg where | nm (i : Nat) | tp (is : List Nat)
def Bo.op : Bo → Operator | .add => .Add | .sub => .Sub | .mul => .Mult | .fdiv => .FloorDiv | .mod => .Mod
def Bo.f : Bo → D → D → Option D | .add => addD | .sub => subD | .mul => mulD | .fdiv => fdivD | .mod => modD
def BoN.op : BoN → Operator | .cat => .Add | .rep => .Mult
def BoN.f : BoN → D → D → Option D | .cat => catD | .rep => repD
def Co.op : Co → CmpOp | .eq => .Eq | .ne => .NotEq | .lt => .Lt | .le => .LtE | .gt => .Gt | .ge => .GtE | .isN => .Is | .notN => .IsNot | .inn => .In | .nin => .NotIn
def Co.f : Co → D → D → Option D | .eq => eqD | .ne => neD | .lt => ltD | .le => leD | .gt => gtD | .ge => geD | .isN => isND | .notN => notND | .inn => inD | .nin => ninD
def Bi.nm : Bi → String | .len => "len" | .all => "all" | .any => "any" | .sum => "sum" | .max2 => "max" | .min2 => "min" | .max => "max" | .min => "min"
def Bi.f : Bi → List D → Option D | .len => lenD | .all => allL | .any => anyL | .sum => sumL | .max2 => Cut.max2 | .min2 => Cut.min2 | .max => maxL | .min => minL
inductive Ex where
  | var (i : Nat) | bor (i : Nat)
  | kint (i : Int) | kstr (w : Wd) | kbl (b : Bool) | knon
  | gint (j : Nat) (i : Int) | gstr (j : Nat) (w : Wd)
  | bin (o : Bo) (a b : Ex) | binN (o : BoN) (a b : Ex) | neg (a : Ex)
  | cmp (o : Co) (a b : Ex) | chn (o o' : Co) (a b c : Ex)
  | andv (a r : Ex) | orv (a r : Ex) | one (a : Ex) | notv (a : Ex)
  | ite (t a b : Ex)
  | tval (a : Ex) | tcmp (o : Co) (a b : Ex) | tchn (o o' : Co) (a b c : Ex) | tnot (a : Ex) | tw (a : Ex) | tand (a r : Ex) | tor (a r : Ex) | tone (a : Ex) | tyes
  | tup (es : Ex) | lst (es : Ex) | nil | cons (a r : Ex)
  | cal (b : Bi) (es : Ex) | listN (es : Ex) | tupC (es : Ex) | intC (es : Ex)
  | isi (t : Ty) (a : Ex) | isi2 (t u : Ty) (a : Ex)
  | call (j : Nat) (es : Ex) | calls (j : Nat) (i : Nat) (es : Ex)
  | ix (a b : Ex) | sl (a lo hi : Ex) | slN (a lo hi : Ex) | pn | ps (a : Ex)
  | lc (own : List (Str × Nat)) (tg : Tg) (it c elt : Ex)
  | lc2 (own : List (Str × Nat)) (tg : Tg) (it c : Ex) (tg1 : Tg) (it1 c1 elt : Ex)
  | ext (o : Xo) (a es : Ex) | iex (o : Io) (a es : Ex)
  | seq (a : Ex) | r1 (es : Ex) | r2 (es : Ex) | r3 (es : Ex)
def Tg.t : Tg → D → DS → Option DS
  | .nm i => tgName i
  | .tp is => tgTup is
def Tg.vs : Tg → List Nat
  | .nm i => [i]
  | .tp is => is
mutual
def evE (Γ : Gam) : Ex → DS → Rs D
  | .var i => getV i
  | .bor i => borV i
  | .kint i => constE (.int i)
  | .kstr w => constE (.str w)
  | .kbl b => constE (.bl b)
  | .knon => constE .non
  | .gint _ i => constE (.int i)
  | .gstr _ w => constE (.str w)
  | .bin o a b => bin2 o.f (evE Γ a) (evE Γ b)
  | .binN o a b => bin2 o.f (evE Γ a) (evE Γ b)
  | .neg a => negV (evE Γ a)
  | .cmp o a b => bin2 o.f (evE Γ a) (evE Γ b)
  | .chn o o' a b c => chain o.f o'.f (evE Γ a) (evE Γ b) (evE Γ c)
  | .andv a r => andV (evE Γ a) (evE Γ r)
  | .orv a r => orV (evE Γ a) (evE Γ r)
  | .one a => evE Γ a
  | .notv a => notV (evE Γ a)
  | .ite t a b => ifE (evT Γ t) (evE Γ a) (evE Γ b)
  | .tup es => tupS (evA Γ es)
  | .lst es => lstS (evA Γ es)
  | .cal b es => calB b.f (evA Γ es)
  | .listN es => calB listL (evA Γ es)
  | .tupC es => calB tupL (evA Γ es)
  | .intC es => calB int1 (evA Γ es)
  | .isi t a => isiS t (evE Γ a)
  | .isi2 t u a => isi2S t u (evE Γ a)
  | .call j es => callP (Γ.pf j).1 (Γ.pf j).2 (evA Γ es)
  | .calls j i es => callS i (Γ.sf j).1 (Γ.sf j).2 (evA Γ es)
  | .ix a b => bin2 ixD (evE Γ a) (evE Γ b)
  | .sl a lo hi => slS slD (evE Γ a) (evP Γ lo) (evP Γ hi)
  | .slN a lo hi => slS Cut.slN (evE Γ a) (evP Γ lo) (evP Γ hi)
  | .ext o a es => o.ev Γ (evE Γ a) (evA Γ es)
  | .lc own tg it c elt => lcS (own.map (·.2)) (evI Γ it) tg.t (evT Γ c) (evE Γ elt)
  | .lc2 own tg it c tg1 it1 c1 elt => lc2S (own.map (·.2)) tg1.vs (evI Γ it) tg.t (evT Γ c) (evI Γ it1) tg1.t (evT Γ c1) (evE Γ elt)
  | _ => fun _ => .bad
def evT (Γ : Gam) : Ex → DS → Rs Bool
  | .tval a => valT (evE Γ a)
  | .tcmp o a b => valT (bin2 o.f (evE Γ a) (evE Γ b))
  | .tchn o o' a b c => valT (chain o.f o'.f (evE Γ a) (evE Γ b) (evE Γ c))
  | .tnot a => notT (evT Γ a)
  | .tw a => evT Γ a
  | .tand a r => andT (evT Γ a) (evT Γ r)
  | .tor a r => orT (evT Γ a) (evT Γ r)
  | .tone a => evT Γ a
  | .tyes => yesT
  | _ => fun _ => .bad
def evA (Γ : Gam) : Ex → DS → Rs (List D)
  | .nil => argsNil
  | .cons a r => argsCons (evE Γ a) (evA Γ r)
  | _ => fun _ => .bad
def evI (Γ : Gam) : Ex → DS → Rs (List D)
  | .seq a => seqI (evE Γ a)
  | .r1 es => rngI rng1 (evA Γ es)
  | .r2 es => rngI rng2 (evA Γ es)
  | .r3 es => rngI rng3 (evA Γ es)
  | .iex o a es => o.ev Γ (evE Γ a) (evA Γ es)
  | _ => fun _ => .bad
def evP (Γ : Gam) : Ex → DS → Rs (Option Int)
  | .pn => noP
  | .ps a => someP (evE Γ a)
  | _ => fun _ => .bad
end

/-! ### the check: the text is the middle language's -/
/-- a subscript's index that is no slice -/
def plainIx : Expr → Bool
  | .Slice _ _ _ _ => false
  | .Tuple _ _ _ => false
  | .Starred _ _ => false
  | .Constant _ _ _ => true
  | .Name _ _ => true
  | .BinOp _ _ _ _ => true
  | .UnaryOp _ _ _ => true
  | .Call _ _ _ _ => true
  | .Subscript _ _ _ => true
  | _ => false
theorem plain_ix {b : Expr} (h : plainIx b = true) : PlainIx b := by
  cases b <;> first | (intro o i; rfl) | cases h
/-- a test by its value -/
def valTest : Expr → Bool
  | .Name _ _ => true
  | .Call _ _ _ _ => true
  | .Subscript _ _ _ => true
  | .Constant _ _ _ => true
  | _ => false
theorem val_test {e : Expr} (h : valTest e = true) (env : Env) : ∀ whole, isTrue e env whole = (do let v ← whole; standAt e.pos; holding [v] (truthy v)) := by
  cases e <;> first | (intro w; rfl) | cases h
def notSetE : Expr → Bool
  | .Set _ _ _ => false
  | _ => true
theorem not_set {e : Expr} (h : notSetE e = true) (env : Env) (x : Value) : foldedSetIterable e env x = pure x := by
  cases e <;> first | rfl | cases h
def noMark : CmpOp → Expr → Bool
  | .In, .Set _ _ _ => false
  | .NotIn, .Set _ _ _ => false
  | _, _ => true
theorem no_mark {o : CmpOp} {e : Expr} (h : noMark o e = true) : behindInMarks o e = false := by
  cases e <;> first | rfl | (cases o <;> first | (cases h; done) | simp [behindInMarks])
theorem last_mark {o o' : CmpOp} {e e' : Expr} (h : noMark o' e' = true) : lastMarks [o, o'] [e, e'] = false := by
  show behindInMarks o' e' = false
  exact no_mark h
def Tg.chk (se : SE) : Tg → Expr → Bool
  | .nm i, .Name x _ => se.loc i x
  | .tp is, .Tuple es _ _ => decide (is.length = es.length) && (is.zip es).all fun p => match p.2 with
    | .Name x _ => se.loc p.1 x
    | _ => false
  | _, _ => false
mutual
def chE (tb : Tb) (se : SE) : Ex → Expr → Md → Bool
  | .var i, .Name x _, m => se.vis i x && m != .n
  | .bor i, .Name x _, .b => se.vis i x
  | .kint i, .Constant (.int j) _ _, m => decide (i = j) && m != .n
  | .kstr w, .Constant (.str x) _ _, m => decide (x = S w) && m != .n
  | .kbl b, .Constant (.bool c) _ _, m => decide (b = c) && m != .n
  | .knon, .Constant .none _ _, m => m != .n
  | .gint j i, .Name x _, m => se.gl x && decide (tb.gi[j]? = some (x, i)) && m != .n
  | .gstr j w, .Name x _, m => se.gl x && decide (tb.gs[j]? = some (x, w)) && m != .n
  | .bin o a b, .BinOp x p y _, m => decide (p = o.op) && chE tb se a x .b && chE tb se b y .b && m != .n
  | .binN o a b, .BinOp x p y _, _ => decide (p = o.op) && chE tb se a x .b && chE tb se b y .b
  | .neg a, .UnaryOp .USub x _, m => chE tb se a x .e && m != .n
  | .cmp o a b, .Compare x [p] [y] _, m => decide (p = o.op) && noMark p y && chE tb se a x .b && chE tb se b y .b && m != .n
  | .chn o o' a b c, .Compare x [p, p'] [y, z] _, m => decide (p = o.op) && decide (p' = o'.op) && noMark p' z && chE tb se a x .b && chE tb se b y .b && chE tb se c z .b && m != .n
  | .andv a r, .BoolOp .And (x :: y :: rest) pos, m => chE tb se a x .e && chE tb se r (.BoolOp .And (y :: rest) pos) .e && m != .n
  | .orv a r, .BoolOp .Or (x :: y :: rest) pos, m => chE tb se a x .e && chE tb se r (.BoolOp .Or (y :: rest) pos) .e && m != .n
  | .one a, .BoolOp _ [x] _, m => chE tb se a x .e && m != .n
  | .notv a, .UnaryOp .Not x _, m => chE tb se a x .e && m != .n
  | .ite t a b, .IfExp c x y _, m => chT tb se t c && chE tb se a x .e && chE tb se b y .e && m != .n
  | .tup es, .Tuple xs _ _, m => chA tb se false es xs && m != .n
  | .lst es, .List xs _, _ => chA tb se false es xs
  | .cal b es, .Call (.Name x _) (y :: ys) [] _, m => decide (x = Str.ofString b.nm) && se.blt tb x && (y :: ys).all notStar && chA tb se true es (y :: ys) && m != .n
  | .listN es, .Call (.Name x _) (y :: ys) [] _, _ => decide (x = ("list" : Str)) && se.blt tb x && (y :: ys).all notStar && chA tb se true es (y :: ys)
  | .tupC es, .Call (.Name x _) (y :: ys) [] _, m => decide (x = ("tuple" : Str)) && se.blt tb x && (y :: ys).all notStar && chA tb se true es (y :: ys) && m != .n
  | .intC es, .Call (.Name x _) (y :: ys) [] _, m => decide (x = ("int" : Str)) && se.blt tb x && (y :: ys).all notStar && chA tb se true es (y :: ys) && m != .n
  | .isi t a, .Call (.Name x _) [e, .Name T _] [] _, m => decide (x = ("isinstance" : Str)) && se.blt tb x && decide (T = Str.ofString t.nm) && se.blt tb T && notStar e && chE tb se a e .b && m != .n
  | .isi2 t u a, .Call (.Name x _) [e, .Tuple [.Name T _, .Name U _] _ _] [] _, m => decide (x = ("isinstance" : Str)) && se.blt tb x && decide (T = Str.ofString t.nm) && se.blt tb T && decide (U = Str.ofString u.nm) && se.blt tb U && notStar e && chE tb se a e .e && m != .n
  | .call j es, .Call (.Name x _) (y :: ys) [] _, m => se.gl x && decide ((tb.pfs[j]?).map (·.1) = some x) && (y :: ys).all notStar && chA tb se false es (y :: ys) && m != .n
  | .calls j i es, .Call (.Name x _) (.Name h _ :: ys) [] _, m => se.gl x && decide ((tb.sfs[j]?).map (·.1) = some x) && se.vis i h && ys.all notStar && chA tb se false es ys && m != .n
  | .ix a b, .Subscript x y _, m => plainIx y && chE tb se a x .b && chE tb se b y .b && m != .n
  | .sl a lo hi, .Subscript x (.Slice l u none _) _, m => chE tb se a x .b && chP tb se lo l && chP tb se hi u && m != .n
  | .slN a lo hi, .Subscript x (.Slice l u none _) _, _ => chE tb se a x .b && chP tb se lo l && chP tb se hi u
  | .lc own tg it c elt, .ListComp e [⟨t, i, ifs, a⟩] scope _, _ => decide (a = 0) && notSetE i && blkC se.N se.sc scope own && tg.vs.all (fun v => decide (v ∈ own.map (·.2))) && chI tb se (isTupE t) it i && tg.chk ⟨se.N, relS scope se.sc, some scope⟩ t &&
      chTs tb ⟨se.N, relS scope se.sc, some scope⟩ c ifs && chE tb ⟨se.N, relS scope se.sc, some scope⟩ elt e .e
  | .lc2 own tg it c tg1 it1 c1 elt, .ListComp e [⟨t, i, ifs, a⟩, ⟨t1, i1, ifs1, a1⟩] scope _, _ => decide (a = 0) && decide (a1 = 0) && notSetE i && notSetE i1 && blkC se.N se.sc scope own && tg.vs.all (fun v => decide (v ∈ own.map (·.2))) && tg1.vs.all (fun v => decide (v ∈ own.map (·.2))) && chI tb se (isTupE t) it i && tg.chk ⟨se.N, relS scope se.sc, some scope⟩ t &&
      chTs tb ⟨se.N, relS scope se.sc, some scope⟩ c ifs && chI tb ⟨se.N, relS scope se.sc, some scope⟩ (isTupE t1) it1 i1 && tg1.chk ⟨se.N, relS scope se.sc, some scope⟩ t1 && chTs tb ⟨se.N, relS scope se.sc, some scope⟩ c1 ifs1 && chE tb ⟨se.N, relS scope se.sc, some scope⟩ elt e .e
  | .ext o a es, e, m => (match o.parse tb se e with
    | some q => chE tb se a q.e q.m && chA tb se q.b es q.es && (q.fr || m != .n)
    | none => false)
  | _, _, _ => false
def chT (tb : Tb) (se : SE) : Ex → Expr → Bool
  | .tval a, e => valTest e && chE tb se a e .e
  | .tcmp o a b, .Compare x [p] [y] _ => decide (p = o.op) && noMark p y && chE tb se a x .b && chE tb se b y .b
  | .tchn o o' a b c, .Compare x [p, p'] [y, z] _ => decide (p = o.op) && decide (p' = o'.op) && noMark p' z && chE tb se a x .b && chE tb se b y .b && chE tb se c z .b
  | .tnot a, .UnaryOp .Not x _ => chT tb se a x
  | .tw a, e => chW tb se a e
  | _, _ => false
def chW (tb : Tb) (se : SE) : Ex → Expr → Bool
  | .tand a r, .BoolOp .And (x :: y :: rest) pos => chT tb se a x && chW tb se r (.BoolOp .And (y :: rest) pos)
  | .tor a r, .BoolOp .Or (x :: y :: rest) pos => chT tb se a x && chW tb se r (.BoolOp .Or (y :: rest) pos)
  | .tone a, .BoolOp _ [x] _ => chT tb se a x
  | _, _ => false
def chTs (tb : Tb) (se : SE) : Ex → List Expr → Bool
  | .tyes, [] => true
  | .tw a, [e] => chT tb se a e
  | _, _ => false
def chA (tb : Tb) (se : SE) (b : Bool) : Ex → List Expr → Bool
  | .nil, [] => true
  | .cons a r, e :: es => notStar e && chE tb se a e (if b = true then .b else .e) && chA tb se b r es
  | _, _ => false
def chI (tb : Tb) (se : SE) (tt : Bool) : Ex → Expr → Bool
  | .seq a, e => chE tb se a e .e
  | .r1 es, .Call (.Name x _) [a] [] _ => decide (x = ("range" : Str)) && se.blt tb x && notStar a && chA tb se true es [a]
  | .r2 es, .Call (.Name x _) [a, b] [] _ => decide (x = ("range" : Str)) && se.blt tb x && notStar a && notStar b && chA tb se true es [a, b]
  | .r3 es, .Call (.Name x _) [a, b, c] [] _ => decide (x = ("range" : Str)) && se.blt tb x && notStar a && notStar b && notStar c && chA tb se true es [a, b, c]
  | .iex o a es, e => (match o.parse tb se tt e with
    | some q => chE tb se a q.e q.m && chA tb se q.b es q.es
    | none => false)
  | _, _ => false
def chP (tb : Tb) (se : SE) : Ex → Option Expr → Bool
  | .pn, none => true
  | .ps a, some e => chE tb se a e .e
  | _, _ => false
end
end Cut
namespace Cut
open PySem PySem.Spec L2
open PyProof.Rows hiding St

structure Good (tb : Tb) (Γ : Gam) (Φ : Fx) (k : Nat) (X : Cx) (W : WX) (se : SE) : Prop where
  hN : X.N = se.N
  sc : X.env.scope = se.sc
  nd : se.N.Nodup
  calm : X.calm = true
  room : Room k X.A
  tk : Takes X W
  fn : ∀ x, X.fn x = (match se.blk with | none => true | some sc => (sc.names.lookup x == some .cell))
  gi : ∀ (j : Nat) x i, tb.gi[j]? = some (x, i) → ∃ u, X.mg x = some u ∧ RelV (.int i) u
  gs : ∀ (j : Nat) x w, tb.gs[j]? = some (x, w) → ∃ u, X.mg x = some u ∧ RelV (.str (S w)) u
  pf : ∀ (j : Nat) x n, tb.pfs[j]? = some (x, n) → GoodP X.prog X.w X.K X.mg X.base Φ.cc k x (Γ.pf j).1 (Γ.pf j).2
  sf : ∀ (j : Nat) x n, tb.sfs[j]? = some (x, n) → GoodS X.prog X.w X.K X.mg X.base Φ.cc k x (Γ.sf j).1 (Γ.sf j).2
  bl : ∀ x, x ∈ tb.blts → X.mg x = none
  cd : tb.cod = true → CodC X.K Φ.cc
  mks : ∀ (j : Nat) x n, tb.mks[j]? = some (x, n) → ∃ k', k' + 1 ≤ k ∧ GoodM X.prog X.w X.K X.mg X.base Φ.cc k' x (Γ.mf j).1 (Γ.mf j).2
  pr : ∀ x f, (x, f) ∈ tb.props → ∃ k', k' + 1 ≤ k ∧ GoodPr X.prog X.w X.K X.mg X.base Φ.cc k' x f
def Jm (m : Md) (X : Cx) (Φ : Fx) (W : WX) (e : Expr) (f : DS → Rs D) : Prop := match m with
  | .e => DE X Φ W e f
  | .b => DB X Φ W e f
  | .n => DF X Φ W e f
theorem jE {m : Md} {X : Cx} {Φ : Fx} {W : WX} {e : Expr} {f : DS → Rs D} (hm : (m != .n) = true) (h : DE X Φ W e f) : Jm m X Φ W e f := by
  cases m with
  | e => exact h
  | b => exact DE.toB h
  | n => cases hm
theorem jN {m : Md} {X : Cx} {Φ : Fx} {W : WX} {e : Expr} {f : DS → Rs D} (h : DF X Φ W e f) : Jm m X Φ W e f := by
  cases m with
  | e => exact DF.toE h
  | b => exact DE.toB (DF.toE h)
  | n => exact h
section
variable {tb : Tb} {Γ : Gam} {Φ : Fx} {k : Nat} {X : Cx} {W : WX} {se : SE}
theorem kind_eq (G : Good tb Γ Φ k X W se) (x : Str) : X.env.kindOf x = se.kind x := by
  show X.env.scope.names.lookup x = _
  rw [G.sc]; rfl
theorem vis_of (G : Good tb Γ Φ k X W se) {i : Nat} {x : Str} (h : se.vis i x = true) : X.N[i]? = some x ∧ Vis X.env.scope x ∧ (x == ("__debug__" : Str)) = false ∧ (x == ("__classdict__" : Str)) = false := by
  unfold SE.vis at h
  simp only [Bool.and_eq_true, Bool.or_eq_true, decide_eq_true_eq, Bool.not_eq_true'] at h
  obtain ⟨⟨⟨h1, h2⟩, h3⟩, h4⟩ := h
  refine ⟨by rw [G.hN]; exact h1, ?_, h3, h4⟩
  unfold Vis
  rw [G.sc]
  rcases h2 with (h2 | h2) | h2
  · exact .inl h2
  · exact .inr (.inl h2)
  · exact .inr (.inr h2)
theorem loc_of (G : Good tb Γ Φ k X W se) {i : Nat} {x : Str} (h : se.loc i x = true) : X.N[i]? = some x ∧ L2.Loc X.env.scope x ∧ (X.fn x = true ∨ X.env.scope.names.lookup x = some .local) := by
  unfold SE.loc at h
  simp only [Bool.and_eq_true, Bool.or_eq_true, decide_eq_true_eq] at h
  obtain ⟨h1, h2⟩ := h
  refine ⟨by rw [G.hN]; exact h1, ?_⟩
  unfold L2.Loc
  rw [G.sc]
  rcases h2 with h2 | ⟨h2, h3⟩
  · exact ⟨.inl h2, .inr h2⟩
  · refine ⟨.inr h2, .inl ?_⟩
    rw [G.fn]
    exact h3
theorem gl_of (G : Good tb Γ Φ k X W se) {x : Str} (h : se.gl x = true) : Gl X x ∧ (x == ("__debug__" : Str)) = false ∧ x ≠ ("__name__" : Str) := by
  unfold SE.gl at h
  simp only [Bool.and_eq_true, decide_eq_true_eq, Bool.not_eq_true', decide_eq_false_iff_not] at h
  exact ⟨by unfold Gl; rw [kind_eq G]; exact h.1.1, h.1.2, h.2⟩
theorem blt_of (G : Good tb Γ Φ k X W se) {x : Str} (h : se.blt tb x = true) : Gl X x ∧ X.mg x = none ∧ (x == ("__debug__" : Str)) = false ∧ x ≠ ("__name__" : Str) := by
  unfold SE.blt at h
  simp only [Bool.and_eq_true, decide_eq_true_eq] at h
  have := gl_of G h.1
  exact ⟨this.1, G.bl x h.2, this.2.1, this.2.2⟩
theorem blk_good (G : Good tb Γ Φ k X W se) (s : Shared) (H : Hp) (scope : Scope) (cl : List (Str × Addr)) (C : Addr) (fp : List Addr) :
    Good tb Γ Φ k (X.blk s H scope (compEnvC scope cl C X.env) fp) WF ⟨se.N, relS scope se.sc, some scope⟩ where
  hN := G.hN
  sc := by
    show relS scope X.env.scope = _
    rw [G.sc]
  nd := G.nd
  calm := G.calm
  room := G.room
  tk := fun u s' x => by obtain ⟨_, _, _, _, _, _, _, _, _, _, _, _, _, _, _, _, w⟩ := x; exact w.elim
  fn := fun x => rfl
  gi := G.gi
  gs := G.gs
  pf := G.pf
  sf := G.sf
  bl := G.bl
  cd := G.cd
  mks := G.mks
  pr := G.pr
theorem op_bo {o : Bo} : OpD X Φ (binaryOp o.op) o.f := by
  cases o
  · exact op_addD
  · exact op_subD
  · exact op_mulD
  · exact op_fdivD
  · exact op_modD
theorem op_boN {o : BoN} : OpN X Φ (binaryOp o.op) o.f := by
  cases o
  · exact op_catD
  · exact op_repD
theorem op_co (hu : X.A.units + 64 < cLine) {o : Co} : OpD X Φ (compareOp o.op) o.f := by
  cases o
  · exact op_eqD' hu
  · exact op_neD' hu
  · exact op_ltD
  · exact op_leD
  · exact op_gtD
  · exact op_geD
  · exact op_isND
  · exact op_notND
  · exact op_inD' hu
  · exact op_ninD' hu
theorem boot_bi (b : Bi) : bootBuiltins (Str.ofString b.nm) = some (.builtin b.nm) := by cases b <;> decide +kernel
theorem cl_bi (hc : X.calm = true) (hu : X.A.units + 64 < cLine) {b : Bi} : CallR X (.builtin b.nm) (rC X.K Φ b.f) := by
  cases b
  · exact cl_len
  · exact cl_all hc
  · exact cl_any hc
  · exact cl_sum hc
  · exact cl_max2 hc
  · exact cl_min2 hc
  · exact cl_max hc hu
  · exact cl_min hc hu
theorem boot_list : bootBuiltins "list" = some (.type "list") := by decide +kernel
theorem boot_tuple : bootBuiltins "tuple" = some (.type "tuple") := by decide +kernel
theorem boot_int : bootBuiltins "int" = some (.type "int") := by decide +kernel
theorem all_ns {e : Expr} {es : List Expr} (h : (e :: es).all notStar = true) (env : Env) (pos : Pos) : starEach (e :: es) env = (false, eval e env) :: starEach es env ∧ (backTo pos (starEach es env)).any (·.1) = false := by
  rw [List.all_cons, Bool.and_eq_true] at h
  exact ⟨star_cons h.1 es env, star_any h.2 env pos⟩
theorem zip_tg (G : Good tb Γ Φ k X W se) : ∀ (is : List Nat) (es : List Expr), is.length = es.length → ((is.zip es).all fun p => match p.2 with
    | .Name x _ => se.loc p.1 x
    | _ => false) = true → PGs X es (tGs X.K Φ is (tgNames is)) ∧ (assignEach es X.env).length = is.length ∧ (assignEach es X.env).findIdx? (·.1) = none
  | [], [], _, _ => ⟨dgs_nil, rfl, rfl⟩
  | [], _ :: _, h, _ => by cases h
  | _ :: _, [], h, _ => by cases h
  | i :: is, e :: es, h, h2 => by
    rw [List.zip_cons_cons, List.all_cons, Bool.and_eq_true] at h2
    obtain ⟨ih1, ih2, ih3⟩ := zip_tg G is es (by simpa using h) h2.2
    have h3 := h2.1
    cases e with
    | Name x p =>
      obtain ⟨l1, l2, l3⟩ := loc_of G h3
      refine ⟨dgs_cons rfl (dg_name (by rw [G.hN]; exact G.nd) l1 l2 l3) ih1, ?_, ?_⟩
      · show (assignEach es X.env).length + 1 = is.length + 1
        rw [ih2]
      · show List.findIdx? _ ((false, _) :: assignEach es X.env) = none
        rw [List.findIdx?_cons]
        simp [ih3]
    | _ => cases h3
theorem tg_ok (G : Good tb Γ Φ k X W se) : ∀ (tg : Tg) (e : Expr), tg.chk se e = true → DG X Φ e tg.vs tg.t
  | .nm i, e, h => by
    cases e with
    | Name x p =>
      obtain ⟨l1, l2, l3⟩ := loc_of G h
      exact dg_name (by rw [G.hN]; exact G.nd) l1 l2 l3
    | _ => cases h
  | .tp is, e, h => by
    cases e with
    | Tuple es kk p =>
      have h : (decide (is.length = es.length) && _) = true := h
      rw [Bool.and_eq_true, decide_eq_true_eq] at h
      obtain ⟨z1, z2, z3⟩ := zip_tg G is es h.1 h.2
      exact dg_tup G.calm z1 rfl z2 z3
    | _ => cases h
/-! ### the further forms -/
theorem mt_ok (m : Mt) : (m.fr = false → MtR X (match m with | .tupIdx => "tuple.index") (rM X.K Φ m.f)) := by
  cases m
  · exact fun _ => mt_tupIdx
theorem few_of {n : Nat} (h : few n = true) : n < 29 := of_decide_eq_true h
theorem jA {b : Bool} {es : List Expr} {g : DS → Rs (List D)} (h : if b = true then DAb X Φ W es g else DA X Φ W es g) : (b = true → DAb X Φ W es g) ∧ (b = false → DA X Φ W es g) := by
  cases b
  · exact ⟨fun z => Bool.noConfusion z, fun _ => h⟩
  · exact ⟨fun _ => h, fun z => Bool.noConfusion z⟩
theorem boot_sorted : bootBuiltins "sorted" = some (.builtin "sorted") := by decide +kernel
theorem ext_ok (G : Good tb Γ Φ k X W se) (o : Xo) (e : Expr) (q : Ps) (h : o.parse tb se e = some q) {f : DS → Rs D} {g : DS → Rs (List D)} (ha : Jm q.m X Φ W q.e f) (hb : if q.b = true then DAb X Φ W q.es g else DA X Φ W q.es g) :
    if q.fr = true then DF X Φ W e (o.ev Γ f g) else DE X Φ W e (o.ev Γ f g) := by
  cases o with
  | fld fl =>
    obtain ⟨⟨o, x⟩, e1, h'⟩ := Option.bind_eq_some_iff.mp h
    obtain ⟨pos, rfl⟩ := asAttr_of e1
    clear h
    dsimp only at h'
    split at h'
    case isFalse => cases h'
    case isTrue hc =>
      cases h'
      simp only [Bool.and_eq_true, decide_eq_true_eq] at hc
      obtain ⟨⟨h1, h2⟩, h3⟩ := hc
      subst h2
      exact de_fld (G.cd h1) fl ha h3
  | prop y fl =>
    obtain ⟨⟨o, x⟩, e1, h'⟩ := Option.bind_eq_some_iff.mp h
    obtain ⟨pos, rfl⟩ := asAttr_of e1
    clear h
    dsimp only at h'
    split at h'
    case isFalse => cases h'
    case isTrue hc =>
      cases h'
      simp only [Bool.and_eq_true, decide_eq_true_eq] at hc
      obtain ⟨⟨⟨h1, h2⟩, h3⟩, h4⟩ := hc
      subst h2
      obtain ⟨k', hk, gp⟩ := G.pr _ _ h4
      exact de_prop (G.cd h1) gp (G.room.mono hk) ha h3
  | mk j =>
    obtain ⟨⟨x, p, y, ys, pos⟩, e1, h'⟩ := Option.bind_eq_some_iff.mp h
    have := asCall_of e1
    subst this
    clear h
    dsimp only at h'
    split at h'
    case isFalse => cases h'
    case isTrue hc =>
      cases h'
      simp only [Bool.and_eq_true, decide_eq_true_eq] at hc
      obtain ⟨⟨h1, h2⟩, h3⟩ := hc
      obtain ⟨g1, g2, g3⟩ := gl_of G h1
      obtain ⟨⟨nm, n⟩, e5, e2⟩ := Option.map_eq_some_iff.mp h2
      have e2 : nm = x := e2
      subst e2
      obtain ⟨s1, s2⟩ := all_ns h3 X.env pos
      obtain ⟨k', hk, gm⟩ := G.mks j _ n e5
      exact de_mk gm (G.room.mono hk) G.tk g1 g2 s1 s2 hb
  | mt m =>
    obtain ⟨⟨o, x, ap, y, ys, pos⟩, e1, h'⟩ := Option.bind_eq_some_iff.mp h
    have := asMeth_of e1
    subst this
    clear h
    dsimp only at h'
    split at h'
    case isFalse => cases h'
    case isTrue hc =>
      cases h'
      simp only [Bool.and_eq_true, decide_eq_true_eq] at hc
      obtain ⟨⟨⟨⟨h1, h2⟩, h3⟩, h4⟩, h5⟩ := hc
      subst h1
      obtain ⟨s1, s2⟩ := all_ns h4 X.env pos
      cases m with
      | tupIdx => exact de_mt (c := .tup) PySem.F.plainAttrs_tuple PySem.F.slot_tuple_index PySem.F.type_tuple_index mt_tupIdx ha hb h2 h3 s1 s2 (few_of h5)
  | callB j =>
    obtain ⟨⟨x, p, y, ys, pos⟩, e1, h'⟩ := Option.bind_eq_some_iff.mp h
    have := asCall_of e1
    subst this
    clear h
    dsimp only at h'
    split at h'
    case isFalse => cases h'
    case isTrue hc =>
      cases h'
      simp only [Bool.and_eq_true, decide_eq_true_eq] at hc
      obtain ⟨⟨h1, h2⟩, h3⟩ := hc
      obtain ⟨g1, g2, g3⟩ := gl_of G h1
      obtain ⟨⟨nm, n⟩, e5, e2⟩ := Option.map_eq_some_iff.mp h2
      have e2 : nm = x := e2
      subst e2
      obtain ⟨s1, s2⟩ := all_ns h3 X.env pos
      exact de_callB (G.pf j _ n e5) G.room G.tk g1 g2 s1 s2 hb
  | callSB j i =>
    obtain ⟨⟨x, p, hn, p2, ys, pos⟩, e1, h'⟩ := Option.bind_eq_some_iff.mp h
    have := asCallH_of e1
    subst this
    clear h
    dsimp only at h'
    split at h'
    case isFalse => cases h'
    case isTrue hc =>
      cases h'
      simp only [Bool.and_eq_true, decide_eq_true_eq] at hc
      obtain ⟨⟨⟨h1, h2⟩, h3⟩, h4⟩ := hc
      obtain ⟨g1, g2, g3⟩ := gl_of G h1
      obtain ⟨⟨nm, n⟩, e5, e2⟩ := Option.map_eq_some_iff.mp h2
      have e2 : nm = x := e2
      subst e2
      obtain ⟨v1, v2, v3, v4⟩ := vis_of G h3
      exact de_callSB (G.sf j _ n e5) G.room G.tk g1 g2 v1 v2 v3 v4 rfl (star_any h4 X.env pos) hb
  | lrg =>
    obtain ⟨⟨x, p, r, p2, a, b, pos2, pos⟩, e1, h'⟩ := Option.bind_eq_some_iff.mp h
    have := asRg_of e1
    subst this
    clear h
    dsimp only at h'
    split at h'
    case isFalse => cases h'
    case isTrue hc =>
      cases h'
      simp only [Bool.and_eq_true, decide_eq_true_eq] at hc
      obtain ⟨⟨⟨⟨⟨h1, h2⟩, h3⟩, h4⟩, h5⟩, h6⟩ := hc
      subst h1 h2
      obtain ⟨g1, g2, _, _⟩ := blt_of G h3
      obtain ⟨k1, k2, _, _⟩ := blt_of G h4
      have s2 : starEach [b] X.env = [(false, eval b X.env)] := star_cons h6 [] X.env
      have s1 : starEach [a, b] X.env = [(false, eval a X.env), (false, eval b X.env)] := by rw [star_cons h5, s2]
      exact df_listRg G.calm g1 g2 k1 k2 s1 s2 hb
  | ltx =>
    obtain ⟨⟨x, p, y, ys, pos⟩, e1, h'⟩ := Option.bind_eq_some_iff.mp h
    have := asCall_of e1
    subst this
    clear h
    dsimp only at h'
    split at h'
    case isFalse => cases h'
    case isTrue hc =>
      cases h'
      simp only [Bool.and_eq_true, decide_eq_true_eq] at hc
      obtain ⟨⟨h1, h2⟩, h3⟩ := hc
      subst h1
      obtain ⟨g1, g2, g3, g4⟩ := blt_of G h2
      obtain ⟨s1, s2⟩ := all_ns h3 X.env pos
      exact df_calT (cl_ltx G.calm) g1 g2 boot_list g4 g3 s1 s2 hb
  | call0 j =>
    obtain ⟨⟨x, p, pos⟩, e1, h'⟩ := Option.bind_eq_some_iff.mp h
    have := asCall0_of e1
    subst this
    clear h
    dsimp only at h'
    split at h'
    case isFalse => cases h'
    case isTrue hc =>
      cases h'
      simp only [Bool.and_eq_true, decide_eq_true_eq] at hc
      obtain ⟨h1, h2⟩ := hc
      obtain ⟨g1, g2, g3⟩ := gl_of G h1
      obtain ⟨⟨nm, n⟩, e5, e2⟩ := Option.map_eq_some_iff.mp h2
      have e2 : nm = x := e2
      subst e2
      exact de_call0 (G.pf j _ n e5) G.room G.tk g1 g2
  | srt =>
    obtain ⟨⟨x, p, y, ys, pos⟩, e1, h'⟩ := Option.bind_eq_some_iff.mp h
    have := asCall_of e1
    subst this
    clear h
    dsimp only at h'
    split at h'
    case isFalse => cases h'
    case isTrue hc =>
      cases h'
      simp only [Bool.and_eq_true, decide_eq_true_eq] at hc
      obtain ⟨⟨h1, h2⟩, h3⟩ := hc
      subst h1
      obtain ⟨g1, g2, g3, g4⟩ := blt_of G h2
      obtain ⟨s1, s2⟩ := all_ns h3 X.env pos
      exact df_calB (cl_srt G.room.units) g1 g2 boot_sorted g4 g3 s1 s2 hb
theorem iex_ok (G : Good tb Γ Φ k X W se) (o : Io) (tt : Bool) (tg e : Expr) (ht : tt = true → ∃ es kk p, tg = .Tuple es kk p) (q : Ps) (h : o.parse tb se tt e = some q) {f : DS → Rs D} {g : DS → Rs (List D)} (ha : Jm q.m X Φ W q.e f) (hb : if q.b = true then DAb X Φ W q.es g else DA X Φ W q.es g) :
    DI X Φ W tg e (o.ev Γ f g) := by
  cases o with
  | enu =>
    obtain ⟨⟨x, p, y, ys, pos⟩, e1, h'⟩ := Option.bind_eq_some_iff.mp h
    have := asCall_of e1
    subst this
    clear h
    dsimp only at h'
    split at h'
    case isFalse => cases h'
    case isTrue hc =>
      cases h'
      simp only [Bool.and_eq_true, decide_eq_true_eq] at hc
      obtain ⟨⟨⟨h1, h2⟩, h3⟩, h4⟩ := hc
      subst h1
      obtain ⟨es, kk, p2, rfl⟩ := ht h2
      obtain ⟨g1, g2, g3, g4⟩ := blt_of G h3
      obtain ⟨s1, s2⟩ := all_ns h4 X.env pos
      exact di_enum g1 g2 s1 s2 hb
end
end Cut
namespace Cut
open PySem PySem.Spec L2
open PyProof.Rows hiding St
variable {tb : Tb} {Γ : Gam} {Φ : Fx} {k : Nat}
mutual
theorem sE : ∀ (x : Ex) (e : Expr) (m : Md) (X : Cx) (W : WX) (se : SE), Good tb Γ Φ k X W se → chE tb se x e m = true → Jm m X Φ W e (evE Γ x)
  | .var i, e, m, X, W, se, G, h => by
    cases e with
    | Name x p =>
      simp only [chE, Bool.and_eq_true] at h
      obtain ⟨v1, v2, v3, v4⟩ := vis_of G h.1
      exact jE h.2 (de_var v1 v2 v3 v4)
    | _ => simp [chE] at h
  | .bor i, e, m, X, W, se, G, h => by
    cases e with
    | Name x p => cases m with
      | b =>
        simp only [chE] at h
        obtain ⟨v1, v2, v3, v4⟩ := vis_of G h
        exact db_var v1 v2 v3 v4
      | _ => simp [chE] at h
    | _ => simp [chE] at h
  | .kint i, e, m, X, W, se, G, h => by
    cases e with
    | Constant cc kk p => cases cc with
      | int j =>
        simp only [chE, Bool.and_eq_true, decide_eq_true_eq] at h
        obtain ⟨h1, h2⟩ := h
        subst h1
        exact jE h2 de_int
      | _ => simp [chE] at h
    | _ => simp [chE] at h
  | .kstr w, e, m, X, W, se, G, h => by
    cases e with
    | Constant cc kk p => cases cc with
      | str x =>
        simp only [chE, Bool.and_eq_true, decide_eq_true_eq] at h
        exact jE h.2 (de_str h.1)
      | _ => simp [chE] at h
    | _ => simp [chE] at h
  | .kbl b, e, m, X, W, se, G, h => by
    cases e with
    | Constant cc kk p => cases cc with
      | bool c =>
        simp only [chE, Bool.and_eq_true, decide_eq_true_eq] at h
        obtain ⟨h1, h2⟩ := h
        subst h1
        exact jE h2 de_bl
      | _ => simp [chE] at h
    | _ => simp [chE] at h
  | .knon, e, m, X, W, se, G, h => by
    cases e with
    | Constant cc kk p => cases cc with
      | none  =>
        simp only [chE, Bool.and_eq_true, decide_eq_true_eq] at h
        exact jE h de_non
      | _ => simp [chE] at h
    | _ => simp [chE] at h
  | .gint j i, e, m, X, W, se, G, h => by
    cases e with
    | Name x p =>
      simp only [chE, Bool.and_eq_true, decide_eq_true_eq] at h
      obtain ⟨g1, g2, g3⟩ := gl_of G h.1.1
      obtain ⟨u, hm, r⟩ := G.gi j x i h.1.2
      exact jE h.2 (de_glob g1 hm r (fun F => rep_int) g2)
    | _ => simp [chE] at h
  | .gstr j w, e, m, X, W, se, G, h => by
    cases e with
    | Name x p =>
      simp only [chE, Bool.and_eq_true, decide_eq_true_eq] at h
      obtain ⟨g1, g2, g3⟩ := gl_of G h.1.1
      obtain ⟨u, hm, r⟩ := G.gs j x w h.1.2
      exact jE h.2 (de_glob g1 hm r (fun F => rep_str) g2)
    | _ => simp [chE] at h
  | .bin o a b, e, m, X, W, se, G, h => by
    cases e with
    | BinOp x p y pos =>
      simp only [chE, Bool.and_eq_true, decide_eq_true_eq] at h
      obtain ⟨⟨⟨h1, h2⟩, h3⟩, h4⟩ := h
      subst h1
      exact jE h4 (de_bin op_bo (sE a x .b X W se G h2) (sE b y .b X W se G h3))
    | _ => simp [chE] at h
  | .binN o a b, e, m, X, W, se, G, h => by
    cases e with
    | BinOp x p y pos =>
      simp only [chE, Bool.and_eq_true, decide_eq_true_eq] at h
      obtain ⟨⟨h1, h2⟩, h3⟩ := h
      subst h1
      exact jN (df_bin op_boN (sE a x .b X W se G h2) (sE b y .b X W se G h3))
    | _ => simp [chE] at h
  | .neg a, e, m, X, W, se, G, h => by
    cases e with
    | UnaryOp op x pos => cases op with
      | USub =>
        simp only [chE, Bool.and_eq_true] at h
        exact jE h.2 (de_neg (sE a x .e X W se G h.1))
      | _ => simp [chE] at h
    | _ => simp [chE] at h
  | .notv a, e, m, X, W, se, G, h => by
    cases e with
    | UnaryOp op x pos => cases op with
      | Not =>
        simp only [chE, Bool.and_eq_true] at h
        exact jE h.2 (de_not (sE a x .e X W se G h.1))
      | _ => simp [chE] at h
    | _ => simp [chE] at h
  | .cmp o a b, e, m, X, W, se, G, h => by
    cases e with
    | Compare x ops es pos => match ops, es, h with
      | [p], [y], h =>
        simp only [chE, Bool.and_eq_true, decide_eq_true_eq] at h
        obtain ⟨⟨⟨⟨h1, h2⟩, h3⟩, h4⟩, h5⟩ := h
        subst h1
        exact jE h5 (de_cmp (op_co G.room.units) (sE a x .b X W se G h3) (sE b y .b X W se G h4) (no_mark h2))
      | [], _, h => simp [chE] at h
      | [_], [], h => simp [chE] at h
      | [_], _ :: _ :: _, h => simp [chE] at h
      | _ :: _ :: _, _, h => simp [chE] at h
    | _ => simp [chE] at h
  | .chn o o' a b c, e, m, X, W, se, G, h => by
    cases e with
    | Compare x ops es pos => match ops, es, h with
      | [p, p'], [y, z], h =>
        simp only [chE, Bool.and_eq_true, decide_eq_true_eq] at h
        obtain ⟨⟨⟨⟨⟨⟨h1, h2⟩, h3⟩, h4⟩, h5⟩, h6⟩, h7⟩ := h
        subst h1 h2
        exact jE h7 (de_chain (op_co G.room.units) (op_co G.room.units) (sE a x .b X W se G h4) (sE b y .b X W se G h5) (sE c z .b X W se G h6) (last_mark h3))
      | [], _, h => simp [chE] at h
      | [_], _, h => simp [chE] at h
      | [_, _], [], h => simp [chE] at h
      | [_, _], [_], h => simp [chE] at h
      | [_, _], _ :: _ :: _ :: _, h => simp [chE] at h
      | _ :: _ :: _ :: _, _, h => simp [chE] at h
    | _ => simp [chE] at h
  | .andv a r, e, m, X, W, se, G, h => by
    cases e with
    | BoolOp op es pos => cases op with
      | And => match es, h with
        | x :: y :: rest, h =>
          simp only [chE, Bool.and_eq_true] at h
          exact jE h.2 (de_and (sE a x .e X W se G h.1.1) (sE r _ .e X W se G h.1.2))
        | [], h => simp [chE] at h
        | [_], h => simp [chE] at h
      | _ => simp [chE] at h
    | _ => simp [chE] at h
  | .orv a r, e, m, X, W, se, G, h => by
    cases e with
    | BoolOp op es pos => cases op with
      | Or => match es, h with
        | x :: y :: rest, h =>
          simp only [chE, Bool.and_eq_true] at h
          exact jE h.2 (de_or (sE a x .e X W se G h.1.1) (sE r _ .e X W se G h.1.2))
        | [], h => simp [chE] at h
        | [_], h => simp [chE] at h
      | _ => simp [chE] at h
    | _ => simp [chE] at h
  | .one a, e, m, X, W, se, G, h => by
    cases e with
    | BoolOp op es pos => match es, h with
      | [x], h =>
        simp only [chE, Bool.and_eq_true] at h
        exact jE h.2 (de_one (sE a x .e X W se G h.1))
      | [], h => simp [chE] at h
      | _ :: _ :: _, h => simp [chE] at h
    | _ => simp [chE] at h
  | .ite t a b, e, m, X, W, se, G, h => by
    cases e with
    | IfExp c x y pos =>
      simp only [chE, Bool.and_eq_true, decide_eq_true_eq] at h
      exact jE h.2 (de_if (sT t c X W se G h.1.1.1) (sE a x .e X W se G h.1.1.2) (sE b y .e X W se G h.1.2))
    | _ => simp [chE] at h
  | .tup es, e, m, X, W, se, G, h => by
    cases e with
    | Tuple xs kk pos =>
      simp only [chE, Bool.and_eq_true, decide_eq_true_eq] at h
      exact jE h.2 (de_tup (sA es xs X W se G h.1))
    | _ => simp [chE] at h
  | .lst es, e, m, X, W, se, G, h => by
    cases e with
    | List xs pos =>
      simp only [chE, Bool.and_eq_true, decide_eq_true_eq] at h
      exact jN (df_lst (sA es xs X W se G h))
    | _ => simp [chE] at h
  | .cal b es, e, m, X, W, se, G, h => by
    cases e with
    | Call fe args kws pos => cases fe with
      | Name x p => match args, kws, h with
        | y :: ys, [], h =>
          simp only [chE, Bool.and_eq_true, decide_eq_true_eq] at h
          obtain ⟨⟨⟨⟨h1, h2⟩, h3⟩, h4⟩, h5⟩ := h
          subst h1
          obtain ⟨g1, g2, g3, g4⟩ := blt_of G h2
          obtain ⟨s1, s2⟩ := all_ns h3 X.env pos
          exact jE h5 (de_calB (cl_bi G.calm G.room.units) g1 g2 (boot_bi b) g4 g3 s1 s2 (sAb es _ X W se G h4))
        | [], _, h => simp [chE] at h
        | _ :: _, _ :: _, h => simp [chE] at h
      | _ => simp [chE] at h
    | _ => simp [chE] at h
  | .listN es, e, m, X, W, se, G, h => by
    cases e with
    | Call fe args kws pos => cases fe with
      | Name x p => match args, kws, h with
        | y :: ys, [], h =>
          simp only [chE, Bool.and_eq_true, decide_eq_true_eq] at h
          obtain ⟨⟨⟨h1, h2⟩, h3⟩, h4⟩ := h
          subst h1
          obtain ⟨g1, g2, g3, g4⟩ := blt_of G h2
          obtain ⟨s1, s2⟩ := all_ns h3 X.env pos
          exact jN (df_calT cl_list g1 g2 boot_list g4 g3 s1 s2 (sAb es _ X W se G h4))
        | [], _, h => simp [chE] at h
        | _ :: _, _ :: _, h => simp [chE] at h
      | _ => simp [chE] at h
    | _ => simp [chE] at h
  | .tupC es, e, m, X, W, se, G, h => by
    cases e with
    | Call fe args kws pos => cases fe with
      | Name x p => match args, kws, h with
        | y :: ys, [], h =>
          simp only [chE, Bool.and_eq_true, decide_eq_true_eq] at h
          obtain ⟨⟨⟨⟨h1, h2⟩, h3⟩, h4⟩, h5⟩ := h
          subst h1
          obtain ⟨g1, g2, g3, g4⟩ := blt_of G h2
          obtain ⟨s1, s2⟩ := all_ns h3 X.env pos
          exact jE h5 (de_calT cl_tup g1 g2 boot_tuple g4 g3 s1 s2 (sAb es _ X W se G h4))
        | [], _, h => simp [chE] at h
        | _ :: _, _ :: _, h => simp [chE] at h
      | _ => simp [chE] at h
    | _ => simp [chE] at h
  | .intC es, e, m, X, W, se, G, h => by
    cases e with
    | Call fe args kws pos => cases fe with
      | Name x p => match args, kws, h with
        | y :: ys, [], h =>
          simp only [chE, Bool.and_eq_true, decide_eq_true_eq] at h
          obtain ⟨⟨⟨⟨h1, h2⟩, h3⟩, h4⟩, h5⟩ := h
          subst h1
          obtain ⟨g1, g2, g3, g4⟩ := blt_of G h2
          obtain ⟨s1, s2⟩ := all_ns h3 X.env pos
          exact jE h5 (de_calT cl_int1 g1 g2 boot_int g4 g3 s1 s2 (sAb es _ X W se G h4))
        | [], _, h => simp [chE] at h
        | _ :: _, _ :: _, h => simp [chE] at h
      | _ => simp [chE] at h
    | _ => simp [chE] at h
  | .isi t a, e, m, X, W, se, G, h => by
    cases e with
    | Call fe args kws pos => cases fe with
      | Name x p => match args, kws, h with
        | [e0, e1], [], h => cases e1 with
          | Name T p3 =>
            simp only [chE, Bool.and_eq_true, decide_eq_true_eq] at h
            obtain ⟨⟨⟨⟨⟨⟨h1, h2⟩, h3⟩, h4⟩, h5⟩, h6⟩, h7⟩ := h
            subst h1 h3
            obtain ⟨g1, g2, g3, g4⟩ := blt_of G h2
            obtain ⟨i1, i2, i3, i4⟩ := blt_of G h4
            exact jE h7 (de_isi g1 g2 i1 i2 (star_cons h5 _ _) (sE a e0 .b X W se G h6))
          | _ => simp [chE] at h
        | [], _, h => simp [chE] at h
        | [_], _, h => simp [chE] at h
        | _ :: _ :: _ :: _, _, h => simp [chE] at h
        | [_, _], _ :: _, h => simp [chE] at h
      | _ => simp [chE] at h
    | _ => simp [chE] at h
  | .isi2 t u a, e, m, X, W, se, G, h => by
    cases e with
    | Call fe args kws pos => cases fe with
      | Name x p => match args, kws, h with
        | [e0, e1], [], h => cases e1 with
          | Tuple ts kk p5 => match ts, h with
            | [t0, t1], h => cases t0 with
              | Name T p3 => cases t1 with
                | Name U p4 =>
                  simp only [chE, Bool.and_eq_true, decide_eq_true_eq] at h
                  obtain ⟨⟨⟨⟨⟨⟨⟨⟨h1, h2⟩, h3⟩, h4⟩, h5⟩, h6⟩, h7⟩, h8⟩, h9⟩ := h
                  subst h1 h3 h5
                  obtain ⟨g1, g2, g3, g4⟩ := blt_of G h2
                  obtain ⟨i1, i2, i3, i4⟩ := blt_of G h4
                  obtain ⟨j1, j2, j3, j4⟩ := blt_of G h6
                  exact jE h9 (de_isi2 g1 g2 i1 i2 j1 j2 (star_cons h7 _ _) (sE a e0 .e X W se G h8))
                | _ => simp [chE] at h
              | _ => simp [chE] at h
            | [], h => simp [chE] at h
            | [_], h => simp [chE] at h
            | _ :: _ :: _ :: _, h => simp [chE] at h
          | _ => simp [chE] at h
        | [], _, h => simp [chE] at h
        | [_], _, h => simp [chE] at h
        | _ :: _ :: _ :: _, _, h => simp [chE] at h
        | [_, _], _ :: _, h => simp [chE] at h
      | _ => simp [chE] at h
    | _ => simp [chE] at h
  | .call j es, e, m, X, W, se, G, h => by
    cases e with
    | Call fe args kws pos => cases fe with
      | Name x p => match args, kws, h with
        | y :: ys, [], h =>
          simp only [chE, Bool.and_eq_true, decide_eq_true_eq] at h
          obtain ⟨⟨⟨⟨h1, h2⟩, h3⟩, h4⟩, h5⟩ := h
          obtain ⟨g1, g2, g3⟩ := gl_of G h1
          obtain ⟨⟨nm, n⟩, e1, e2⟩ := Option.map_eq_some_iff.mp h2
          have e2 : nm = x := e2
          subst e2
          obtain ⟨s1, s2⟩ := all_ns h3 X.env pos
          exact jE h5 (de_call (G.pf j _ n e1) G.room G.tk g1 g2 s1 s2 (sA es _ X W se G h4))
        | [], _, h => simp [chE] at h
        | _ :: _, _ :: _, h => simp [chE] at h
      | _ => simp [chE] at h
    | _ => simp [chE] at h
  | .calls j i es, e, m, X, W, se, G, h => by
    cases e with
    | Call fe args kws pos => cases fe with
      | Name x p => match args, kws, h with
        | a0 :: ys, [], h => cases a0 with
          | Name hh p2 =>
            simp only [chE, Bool.and_eq_true, decide_eq_true_eq] at h
            obtain ⟨⟨⟨⟨⟨h1, h2⟩, h3⟩, h4⟩, h5⟩, h6⟩ := h
            obtain ⟨g1, g2, g3⟩ := gl_of G h1
            obtain ⟨⟨nm, n⟩, e1, e2⟩ := Option.map_eq_some_iff.mp h2
            have e2 : nm = x := e2
            subst e2
            obtain ⟨v1, v2, v3, v4⟩ := vis_of G h3
            exact jE h6 (de_callS (G.sf j _ n e1) G.room G.tk g1 g2 v1 v2 v3 v4 rfl (star_any h4 X.env pos) (sA es _ X W se G h5))
          | _ => simp [chE] at h
        | [], _, h => simp [chE] at h
        | a0 :: ys, _ :: _, h => cases a0 <;> simp [chE] at h
      | _ => simp [chE] at h
    | _ => simp [chE] at h
  | .ix a b, e, m, X, W, se, G, h => by
    cases e with
    | Subscript x y pos =>
      simp only [chE, Bool.and_eq_true] at h
      exact jE h.2 (de_ix ix_D (sE a x .b X W se G h.1.1.2) (sE b y .b X W se G h.1.2) (plain_ix h.1.1.1))
    | _ => simp [chE] at h
  | .sl a lo hi, e, m, X, W, se, G, h => by
    cases e with
    | Subscript x y pos => cases y with
      | Slice l u st p2 => cases st with
        | none =>
          simp only [chE, Bool.and_eq_true] at h
          exact jE h.2 (de_sl sl_D (sE a x .b X W se G h.1.1.1) (sP lo l X W se G h.1.1.2) (sP hi u X W se G h.1.2))
        | some _ => simp [chE] at h
      | _ => simp [chE] at h
    | _ => simp [chE] at h
  | .slN a lo hi, e, m, X, W, se, G, h => by
    cases e with
    | Subscript x y pos => cases y with
      | Slice l u st p2 => cases st with
        | none =>
          simp only [chE, Bool.and_eq_true] at h
          exact jN (df_sl sl_N (sE a x .b X W se G h.1.1) (sP lo l X W se G h.1.2) (sP hi u X W se G h.2))
        | some _ => simp [chE] at h
      | _ => simp [chE] at h
    | _ => simp [chE] at h
  | .lc own tg it c elt, e, m, X, W, se, G, h => by
    cases e with
    | ListComp e0 gs scope pos => match gs, h with
      | [⟨t, i, ifs, a⟩], h =>
        simp only [chE, Bool.and_eq_true, decide_eq_true_eq] at h
        obtain ⟨⟨⟨⟨⟨⟨⟨h0, h1⟩, h2⟩, h3⟩, h4⟩, h5⟩, h6⟩, h7⟩ := h
        subst h0
        refine jN (df_lc G.calm (by rw [G.hN]; exact G.nd) (fun v hv => ?_) (sI it _ t i isTup_of X W se G h4) (by rw [G.hN, G.sc]; exact blkOk_by h2) (fun s H C cl fp => tg_ok (blk_good G s H scope cl C fp) tg t h5) (fun s H C cl fp => sTs c ifs _ _ _ (blk_good G s H scope cl C fp) h6)
          (fun s H C cl fp => sE elt e0 .e _ _ _ (blk_good G s H scope cl C fp) h7) (not_set h1 X.env))
        rw [List.all_eq_true] at h3
        exact of_decide_eq_true (h3 v hv)
      | [], h => simp [chE] at h
      | _ :: _ :: _, h => simp [chE] at h
    | _ => simp [chE] at h
  | .lc2 own tg it c tg1 it1 c1 elt, e, m, X, W, se, G, h => by
    cases e with
    | ListComp e0 gs scope pos => match gs, h with
      | [⟨t, i, ifs, a⟩, ⟨t1, i1, ifs1, a1⟩], h =>
        simp only [chE, Bool.and_eq_true, decide_eq_true_eq] at h
        obtain ⟨⟨⟨⟨⟨⟨⟨⟨⟨⟨⟨⟨⟨h0, h0'⟩, h1⟩, h1'⟩, h2⟩, h3⟩, h3'⟩, h4⟩, h5⟩, h6⟩, h7⟩, h8⟩, h9⟩, h10⟩ := h
        subst h0 h0'
        rw [List.all_eq_true] at h3 h3'
        exact jN (df_lc2 G.calm (by rw [G.hN]; exact G.nd) (fun v hv => of_decide_eq_true (h3 v hv)) (fun v hv => of_decide_eq_true (h3' v hv)) (fun v hv => hv) (sI it _ t i isTup_of X W se G h4) (by rw [G.hN, G.sc]; exact blkOk_by h2) (fun s H C cl fp => tg_ok (blk_good G s H scope cl C fp) tg t h5) (fun s H C cl fp => sTs c ifs _ _ _ (blk_good G s H scope cl C fp) h6)
          (fun s H C cl fp => sI it1 _ t1 i1 isTup_of _ _ _ (blk_good G s H scope cl C fp) h7) (fun s H C cl fp => tg_ok (blk_good G s H scope cl C fp) tg1 t1 h8) (fun s H C cl fp => sTs c1 ifs1 _ _ _ (blk_good G s H scope cl C fp) h9)
          (fun s H C cl fp => sE elt e0 .e _ _ _ (blk_good G s H scope cl C fp) h10) (not_set h1 X.env) (fun env x => not_set h1' env x))
      | [], h => simp [chE] at h
      | [_], h => simp [chE] at h
      | _ :: _ :: _ :: _, h => simp [chE] at h
    | _ => simp [chE] at h
  | .ext o a es, e, m, X, W, se, G, h => by
    simp only [chE] at h
    split at h
    case h_2 => cases h
    case h_1 q hq =>
      simp only [Bool.and_eq_true] at h
      obtain ⟨⟨h1, h2⟩, h3⟩ := h
      have hb : if q.b = true then DAb X Φ W q.es (evA Γ es) else DA X Φ W q.es (evA Γ es) := by
        cases hq2 : q.b with
        | true => rw [hq2] at h2; exact sAb es _ X W se G h2
        | false => rw [hq2] at h2; exact sA es _ X W se G h2
      have r := ext_ok G o e q hq (sE a q.e q.m X W se G h1) hb
      cases hf : q.fr with
      | true => rw [hf] at r; exact jN r
      | false => rw [hf] at r h3; exact jE h3 r
  | .iex o a es, e, m, X, W, se, G, h => by cases e <;> simp [chE] at h
  | .tval a, e, m, X, W, se, G, h => by cases e <;> simp [chE] at h
  | .tcmp o a b, e, m, X, W, se, G, h => by cases e <;> simp [chE] at h
  | .tchn o o' a b c, e, m, X, W, se, G, h => by cases e <;> simp [chE] at h
  | .tnot a, e, m, X, W, se, G, h => by cases e <;> simp [chE] at h
  | .tw a, e, m, X, W, se, G, h => by cases e <;> simp [chE] at h
  | .tand a r, e, m, X, W, se, G, h => by cases e <;> simp [chE] at h
  | .tor a r, e, m, X, W, se, G, h => by cases e <;> simp [chE] at h
  | .tone a, e, m, X, W, se, G, h => by cases e <;> simp [chE] at h
  | .tyes, e, m, X, W, se, G, h => by cases e <;> simp [chE] at h
  | .nil, e, m, X, W, se, G, h => by cases e <;> simp [chE] at h
  | .cons a r, e, m, X, W, se, G, h => by cases e <;> simp [chE] at h
  | .pn, e, m, X, W, se, G, h => by cases e <;> simp [chE] at h
  | .ps a, e, m, X, W, se, G, h => by cases e <;> simp [chE] at h
  | .seq a, e, m, X, W, se, G, h => by cases e <;> simp [chE] at h
  | .r1 es, e, m, X, W, se, G, h => by cases e <;> simp [chE] at h
  | .r2 es, e, m, X, W, se, G, h => by cases e <;> simp [chE] at h
  | .r3 es, e, m, X, W, se, G, h => by cases e <;> simp [chE] at h
theorem sT : ∀ (x : Ex) (e : Expr) (X : Cx) (W : WX) (se : SE), Good tb Γ Φ k X W se → chT tb se x e = true → DT X Φ W e (evT Γ x)
  | .tval a, e, X, W, se, G, h => by
    simp only [chT, Bool.and_eq_true] at h
    exact dt_val (sE a e .e X W se G h.2) (val_test h.1 X.env)
  | .tcmp o a b, e, X, W, se, G, h => by
    cases e with
    | Compare x ops es pos => match ops, es, h with
      | [p], [y], h =>
        simp only [chT, Bool.and_eq_true, decide_eq_true_eq] at h
        obtain ⟨⟨⟨h1, h2⟩, h3⟩, h4⟩ := h
        subst h1
        exact dt_cmp (op_co G.room.units) (sE a x .b X W se G h3) (sE b y .b X W se G h4) (no_mark h2)
      | [], _, h => simp [chT] at h
      | [_], [], h => simp [chT] at h
      | [_], _ :: _ :: _, h => simp [chT] at h
      | _ :: _ :: _, _, h => simp [chT] at h
    | _ => simp [chT] at h
  | .tchn o o' a b c, e, X, W, se, G, h => by
    cases e with
    | Compare x ops es pos => match ops, es, h with
      | [p, p'], [y, z], h =>
        simp only [chT, Bool.and_eq_true, decide_eq_true_eq] at h
        obtain ⟨⟨⟨⟨⟨h1, h2⟩, h3⟩, h4⟩, h5⟩, h6⟩ := h
        subst h1 h2
        exact dt_chain (op_co G.room.units) (op_co G.room.units) (sE a x .b X W se G h4) (sE b y .b X W se G h5) (sE c z .b X W se G h6) (last_mark h3)
      | [], _, h => simp [chT] at h
      | [_], _, h => simp [chT] at h
      | [_, _], [], h => simp [chT] at h
      | [_, _], [_], h => simp [chT] at h
      | [_, _], _ :: _ :: _ :: _, h => simp [chT] at h
      | _ :: _ :: _ :: _, _, h => simp [chT] at h
    | _ => simp [chT] at h
  | .tnot a, e, X, W, se, G, h => by
    cases e with
    | UnaryOp op x pos => cases op with
      | Not =>
        simp only [chT] at h
        exact dt_not (sT a x X W se G h)
      | _ => simp [chT] at h
    | _ => simp [chT] at h
  | .tw a, e, X, W, se, G, h => by
    simp only [chT] at h
    exact PW.pt (sW a e X W se G h)
  | .ext o a es, e, X, W, se, G, h => by cases e <;> simp [chT] at h
  | .iex o a es, e, X, W, se, G, h => by cases e <;> simp [chT] at h
  | .var i, e, X, W, se, G, h => by cases e <;> simp [chT] at h
  | .bor i, e, X, W, se, G, h => by cases e <;> simp [chT] at h
  | .kint i, e, X, W, se, G, h => by cases e <;> simp [chT] at h
  | .kstr w, e, X, W, se, G, h => by cases e <;> simp [chT] at h
  | .kbl b, e, X, W, se, G, h => by cases e <;> simp [chT] at h
  | .knon, e, X, W, se, G, h => by cases e <;> simp [chT] at h
  | .gint j i, e, X, W, se, G, h => by cases e <;> simp [chT] at h
  | .gstr j w, e, X, W, se, G, h => by cases e <;> simp [chT] at h
  | .bin o a b, e, X, W, se, G, h => by cases e <;> simp [chT] at h
  | .binN o a b, e, X, W, se, G, h => by cases e <;> simp [chT] at h
  | .neg a, e, X, W, se, G, h => by cases e <;> simp [chT] at h
  | .cmp o a b, e, X, W, se, G, h => by cases e <;> simp [chT] at h
  | .chn o o' a b c, e, X, W, se, G, h => by cases e <;> simp [chT] at h
  | .andv a r, e, X, W, se, G, h => by cases e <;> simp [chT] at h
  | .orv a r, e, X, W, se, G, h => by cases e <;> simp [chT] at h
  | .one a, e, X, W, se, G, h => by cases e <;> simp [chT] at h
  | .notv a, e, X, W, se, G, h => by cases e <;> simp [chT] at h
  | .ite t a b, e, X, W, se, G, h => by cases e <;> simp [chT] at h
  | .tand a r, e, X, W, se, G, h => by cases e <;> simp [chT] at h
  | .tor a r, e, X, W, se, G, h => by cases e <;> simp [chT] at h
  | .tone a, e, X, W, se, G, h => by cases e <;> simp [chT] at h
  | .tyes, e, X, W, se, G, h => by cases e <;> simp [chT] at h
  | .tup es, e, X, W, se, G, h => by cases e <;> simp [chT] at h
  | .lst es, e, X, W, se, G, h => by cases e <;> simp [chT] at h
  | .nil, e, X, W, se, G, h => by cases e <;> simp [chT] at h
  | .cons a r, e, X, W, se, G, h => by cases e <;> simp [chT] at h
  | .cal b es, e, X, W, se, G, h => by cases e <;> simp [chT] at h
  | .listN es, e, X, W, se, G, h => by cases e <;> simp [chT] at h
  | .tupC es, e, X, W, se, G, h => by cases e <;> simp [chT] at h
  | .intC es, e, X, W, se, G, h => by cases e <;> simp [chT] at h
  | .isi t a, e, X, W, se, G, h => by cases e <;> simp [chT] at h
  | .isi2 t u a, e, X, W, se, G, h => by cases e <;> simp [chT] at h
  | .call j es, e, X, W, se, G, h => by cases e <;> simp [chT] at h
  | .calls j i es, e, X, W, se, G, h => by cases e <;> simp [chT] at h
  | .ix a b, e, X, W, se, G, h => by cases e <;> simp [chT] at h
  | .sl a lo hi, e, X, W, se, G, h => by cases e <;> simp [chT] at h
  | .slN a lo hi, e, X, W, se, G, h => by cases e <;> simp [chT] at h
  | .pn, e, X, W, se, G, h => by cases e <;> simp [chT] at h
  | .ps a, e, X, W, se, G, h => by cases e <;> simp [chT] at h
  | .lc own tg it c elt, e, X, W, se, G, h => by cases e <;> simp [chT] at h
  | .lc2 own tg it c tg1 it1 c1 elt, e, X, W, se, G, h => by cases e <;> simp [chT] at h
  | .seq a, e, X, W, se, G, h => by cases e <;> simp [chT] at h
  | .r1 es, e, X, W, se, G, h => by cases e <;> simp [chT] at h
  | .r2 es, e, X, W, se, G, h => by cases e <;> simp [chT] at h
  | .r3 es, e, X, W, se, G, h => by cases e <;> simp [chT] at h
theorem sW : ∀ (x : Ex) (e : Expr) (X : Cx) (W : WX) (se : SE), Good tb Γ Φ k X W se → chW tb se x e = true → DW X Φ W e (evT Γ x)
  | .tand a r, e, X, W, se, G, h => by
    cases e with
    | BoolOp op es pos => cases op with
      | And => match es, h with
        | x :: y :: rest, h =>
          simp only [chW, Bool.and_eq_true] at h
          exact dw_and (sT a x X W se G h.1) (sW r _ X W se G h.2)
        | [], h => simp [chW] at h
        | [_], h => simp [chW] at h
      | _ => simp [chW] at h
    | _ => simp [chW] at h
  | .tor a r, e, X, W, se, G, h => by
    cases e with
    | BoolOp op es pos => cases op with
      | Or => match es, h with
        | x :: y :: rest, h =>
          simp only [chW, Bool.and_eq_true] at h
          exact dw_or (sT a x X W se G h.1) (sW r _ X W se G h.2)
        | [], h => simp [chW] at h
        | [_], h => simp [chW] at h
      | _ => simp [chW] at h
    | _ => simp [chW] at h
  | .tone a, e, X, W, se, G, h => by
    cases e with
    | BoolOp op es pos => match es, h with
      | [x], h =>
        simp only [chW] at h
        exact dw_one (sT a x X W se G h)
      | [], h => simp [chW] at h
      | _ :: _ :: _, h => simp [chW] at h
    | _ => simp [chW] at h
  | .ext o a es, e, X, W, se, G, h => by cases e <;> simp [chW] at h
  | .iex o a es, e, X, W, se, G, h => by cases e <;> simp [chW] at h
  | .var i, e, X, W, se, G, h => by cases e <;> simp [chW] at h
  | .bor i, e, X, W, se, G, h => by cases e <;> simp [chW] at h
  | .kint i, e, X, W, se, G, h => by cases e <;> simp [chW] at h
  | .kstr w, e, X, W, se, G, h => by cases e <;> simp [chW] at h
  | .kbl b, e, X, W, se, G, h => by cases e <;> simp [chW] at h
  | .knon, e, X, W, se, G, h => by cases e <;> simp [chW] at h
  | .gint j i, e, X, W, se, G, h => by cases e <;> simp [chW] at h
  | .gstr j w, e, X, W, se, G, h => by cases e <;> simp [chW] at h
  | .bin o a b, e, X, W, se, G, h => by cases e <;> simp [chW] at h
  | .binN o a b, e, X, W, se, G, h => by cases e <;> simp [chW] at h
  | .neg a, e, X, W, se, G, h => by cases e <;> simp [chW] at h
  | .cmp o a b, e, X, W, se, G, h => by cases e <;> simp [chW] at h
  | .chn o o' a b c, e, X, W, se, G, h => by cases e <;> simp [chW] at h
  | .andv a r, e, X, W, se, G, h => by cases e <;> simp [chW] at h
  | .orv a r, e, X, W, se, G, h => by cases e <;> simp [chW] at h
  | .one a, e, X, W, se, G, h => by cases e <;> simp [chW] at h
  | .notv a, e, X, W, se, G, h => by cases e <;> simp [chW] at h
  | .ite t a b, e, X, W, se, G, h => by cases e <;> simp [chW] at h
  | .tval a, e, X, W, se, G, h => by cases e <;> simp [chW] at h
  | .tcmp o a b, e, X, W, se, G, h => by cases e <;> simp [chW] at h
  | .tchn o o' a b c, e, X, W, se, G, h => by cases e <;> simp [chW] at h
  | .tnot a, e, X, W, se, G, h => by cases e <;> simp [chW] at h
  | .tw a, e, X, W, se, G, h => by cases e <;> simp [chW] at h
  | .tyes, e, X, W, se, G, h => by cases e <;> simp [chW] at h
  | .tup es, e, X, W, se, G, h => by cases e <;> simp [chW] at h
  | .lst es, e, X, W, se, G, h => by cases e <;> simp [chW] at h
  | .nil, e, X, W, se, G, h => by cases e <;> simp [chW] at h
  | .cons a r, e, X, W, se, G, h => by cases e <;> simp [chW] at h
  | .cal b es, e, X, W, se, G, h => by cases e <;> simp [chW] at h
  | .listN es, e, X, W, se, G, h => by cases e <;> simp [chW] at h
  | .tupC es, e, X, W, se, G, h => by cases e <;> simp [chW] at h
  | .intC es, e, X, W, se, G, h => by cases e <;> simp [chW] at h
  | .isi t a, e, X, W, se, G, h => by cases e <;> simp [chW] at h
  | .isi2 t u a, e, X, W, se, G, h => by cases e <;> simp [chW] at h
  | .call j es, e, X, W, se, G, h => by cases e <;> simp [chW] at h
  | .calls j i es, e, X, W, se, G, h => by cases e <;> simp [chW] at h
  | .ix a b, e, X, W, se, G, h => by cases e <;> simp [chW] at h
  | .sl a lo hi, e, X, W, se, G, h => by cases e <;> simp [chW] at h
  | .slN a lo hi, e, X, W, se, G, h => by cases e <;> simp [chW] at h
  | .pn, e, X, W, se, G, h => by cases e <;> simp [chW] at h
  | .ps a, e, X, W, se, G, h => by cases e <;> simp [chW] at h
  | .lc own tg it c elt, e, X, W, se, G, h => by cases e <;> simp [chW] at h
  | .lc2 own tg it c tg1 it1 c1 elt, e, X, W, se, G, h => by cases e <;> simp [chW] at h
  | .seq a, e, X, W, se, G, h => by cases e <;> simp [chW] at h
  | .r1 es, e, X, W, se, G, h => by cases e <;> simp [chW] at h
  | .r2 es, e, X, W, se, G, h => by cases e <;> simp [chW] at h
  | .r3 es, e, X, W, se, G, h => by cases e <;> simp [chW] at h
theorem sTs : ∀ (x : Ex) (es : List Expr) (X : Cx) (W : WX) (se : SE), Good tb Γ Φ k X W se → chTs tb se x es = true → DTs X Φ W es (evT Γ x)
  | .tyes, es, X, W, se, G, h => by
    cases es with
    | nil => exact dts_nil
    | cons _ _ => simp [chTs] at h
  | .tw a, es, X, W, se, G, h => by
    match es, h with
    | [e], h =>
      simp only [chTs] at h
      exact dts_one (sT a e X W se G h)
    | [], h => simp [chTs] at h
    | _ :: _ :: _, h => simp [chTs] at h
  | .ext o a es, e, X, W, se, G, h => by simp [chTs] at h
  | .iex o a es, e, X, W, se, G, h => by simp [chTs] at h
  | .var i, e, X, W, se, G, h => by simp [chTs] at h
  | .bor i, e, X, W, se, G, h => by simp [chTs] at h
  | .kint i, e, X, W, se, G, h => by simp [chTs] at h
  | .kstr w, e, X, W, se, G, h => by simp [chTs] at h
  | .kbl b, e, X, W, se, G, h => by simp [chTs] at h
  | .knon, e, X, W, se, G, h => by simp [chTs] at h
  | .gint j i, e, X, W, se, G, h => by simp [chTs] at h
  | .gstr j w, e, X, W, se, G, h => by simp [chTs] at h
  | .bin o a b, e, X, W, se, G, h => by simp [chTs] at h
  | .binN o a b, e, X, W, se, G, h => by simp [chTs] at h
  | .neg a, e, X, W, se, G, h => by simp [chTs] at h
  | .cmp o a b, e, X, W, se, G, h => by simp [chTs] at h
  | .chn o o' a b c, e, X, W, se, G, h => by simp [chTs] at h
  | .andv a r, e, X, W, se, G, h => by simp [chTs] at h
  | .orv a r, e, X, W, se, G, h => by simp [chTs] at h
  | .one a, e, X, W, se, G, h => by simp [chTs] at h
  | .notv a, e, X, W, se, G, h => by simp [chTs] at h
  | .ite t a b, e, X, W, se, G, h => by simp [chTs] at h
  | .tval a, e, X, W, se, G, h => by simp [chTs] at h
  | .tcmp o a b, e, X, W, se, G, h => by simp [chTs] at h
  | .tchn o o' a b c, e, X, W, se, G, h => by simp [chTs] at h
  | .tnot a, e, X, W, se, G, h => by simp [chTs] at h
  | .tand a r, e, X, W, se, G, h => by simp [chTs] at h
  | .tor a r, e, X, W, se, G, h => by simp [chTs] at h
  | .tone a, e, X, W, se, G, h => by simp [chTs] at h
  | .tup es, e, X, W, se, G, h => by simp [chTs] at h
  | .lst es, e, X, W, se, G, h => by simp [chTs] at h
  | .nil, e, X, W, se, G, h => by simp [chTs] at h
  | .cons a r, e, X, W, se, G, h => by simp [chTs] at h
  | .cal b es, e, X, W, se, G, h => by simp [chTs] at h
  | .listN es, e, X, W, se, G, h => by simp [chTs] at h
  | .tupC es, e, X, W, se, G, h => by simp [chTs] at h
  | .intC es, e, X, W, se, G, h => by simp [chTs] at h
  | .isi t a, e, X, W, se, G, h => by simp [chTs] at h
  | .isi2 t u a, e, X, W, se, G, h => by simp [chTs] at h
  | .call j es, e, X, W, se, G, h => by simp [chTs] at h
  | .calls j i es, e, X, W, se, G, h => by simp [chTs] at h
  | .ix a b, e, X, W, se, G, h => by simp [chTs] at h
  | .sl a lo hi, e, X, W, se, G, h => by simp [chTs] at h
  | .slN a lo hi, e, X, W, se, G, h => by simp [chTs] at h
  | .pn, e, X, W, se, G, h => by simp [chTs] at h
  | .ps a, e, X, W, se, G, h => by simp [chTs] at h
  | .lc own tg it c elt, e, X, W, se, G, h => by simp [chTs] at h
  | .lc2 own tg it c tg1 it1 c1 elt, e, X, W, se, G, h => by simp [chTs] at h
  | .seq a, e, X, W, se, G, h => by simp [chTs] at h
  | .r1 es, e, X, W, se, G, h => by simp [chTs] at h
  | .r2 es, e, X, W, se, G, h => by simp [chTs] at h
  | .r3 es, e, X, W, se, G, h => by simp [chTs] at h
theorem sA : ∀ (x : Ex) (es : List Expr) (X : Cx) (W : WX) (se : SE), Good tb Γ Φ k X W se → chA tb se false x es = true → DA X Φ W es (evA Γ x)
  | .nil, es, X, W, se, G, h => by
    cases es with
    | nil => exact da_nil
    | cons _ _ => simp [chA] at h
  | .cons a r, es, X, W, se, G, h => by
    cases es with
    | nil => simp [chA] at h
    | cons e es =>
      simp only [chA, Bool.and_eq_true] at h
      exact da_cons (star_cons h.1.1 es X.env) (sE a e .e X W se G h.1.2) (sA r es X W se G h.2)
  | .ext o a es, e, X, W, se, G, h => by simp [chA] at h
  | .iex o a es, e, X, W, se, G, h => by simp [chA] at h
  | .var i, e, X, W, se, G, h => by simp [chA] at h
  | .bor i, e, X, W, se, G, h => by simp [chA] at h
  | .kint i, e, X, W, se, G, h => by simp [chA] at h
  | .kstr w, e, X, W, se, G, h => by simp [chA] at h
  | .kbl b, e, X, W, se, G, h => by simp [chA] at h
  | .knon, e, X, W, se, G, h => by simp [chA] at h
  | .gint j i, e, X, W, se, G, h => by simp [chA] at h
  | .gstr j w, e, X, W, se, G, h => by simp [chA] at h
  | .bin o a b, e, X, W, se, G, h => by simp [chA] at h
  | .binN o a b, e, X, W, se, G, h => by simp [chA] at h
  | .neg a, e, X, W, se, G, h => by simp [chA] at h
  | .cmp o a b, e, X, W, se, G, h => by simp [chA] at h
  | .chn o o' a b c, e, X, W, se, G, h => by simp [chA] at h
  | .andv a r, e, X, W, se, G, h => by simp [chA] at h
  | .orv a r, e, X, W, se, G, h => by simp [chA] at h
  | .one a, e, X, W, se, G, h => by simp [chA] at h
  | .notv a, e, X, W, se, G, h => by simp [chA] at h
  | .ite t a b, e, X, W, se, G, h => by simp [chA] at h
  | .tval a, e, X, W, se, G, h => by simp [chA] at h
  | .tcmp o a b, e, X, W, se, G, h => by simp [chA] at h
  | .tchn o o' a b c, e, X, W, se, G, h => by simp [chA] at h
  | .tnot a, e, X, W, se, G, h => by simp [chA] at h
  | .tw a, e, X, W, se, G, h => by simp [chA] at h
  | .tand a r, e, X, W, se, G, h => by simp [chA] at h
  | .tor a r, e, X, W, se, G, h => by simp [chA] at h
  | .tone a, e, X, W, se, G, h => by simp [chA] at h
  | .tyes, e, X, W, se, G, h => by simp [chA] at h
  | .tup es, e, X, W, se, G, h => by simp [chA] at h
  | .lst es, e, X, W, se, G, h => by simp [chA] at h
  | .cal b es, e, X, W, se, G, h => by simp [chA] at h
  | .listN es, e, X, W, se, G, h => by simp [chA] at h
  | .tupC es, e, X, W, se, G, h => by simp [chA] at h
  | .intC es, e, X, W, se, G, h => by simp [chA] at h
  | .isi t a, e, X, W, se, G, h => by simp [chA] at h
  | .isi2 t u a, e, X, W, se, G, h => by simp [chA] at h
  | .call j es, e, X, W, se, G, h => by simp [chA] at h
  | .calls j i es, e, X, W, se, G, h => by simp [chA] at h
  | .ix a b, e, X, W, se, G, h => by simp [chA] at h
  | .sl a lo hi, e, X, W, se, G, h => by simp [chA] at h
  | .slN a lo hi, e, X, W, se, G, h => by simp [chA] at h
  | .pn, e, X, W, se, G, h => by simp [chA] at h
  | .ps a, e, X, W, se, G, h => by simp [chA] at h
  | .lc own tg it c elt, e, X, W, se, G, h => by simp [chA] at h
  | .lc2 own tg it c tg1 it1 c1 elt, e, X, W, se, G, h => by simp [chA] at h
  | .seq a, e, X, W, se, G, h => by simp [chA] at h
  | .r1 es, e, X, W, se, G, h => by simp [chA] at h
  | .r2 es, e, X, W, se, G, h => by simp [chA] at h
  | .r3 es, e, X, W, se, G, h => by simp [chA] at h
theorem sAb : ∀ (x : Ex) (es : List Expr) (X : Cx) (W : WX) (se : SE), Good tb Γ Φ k X W se → chA tb se true x es = true → DAb X Φ W es (evA Γ x)
  | .nil, es, X, W, se, G, h => by
    cases es with
    | nil => exact dab_nil
    | cons _ _ => simp [chA] at h
  | .cons a r, es, X, W, se, G, h => by
    cases es with
    | nil => simp [chA] at h
    | cons e es =>
      simp only [chA, Bool.and_eq_true] at h
      exact dab_cons (star_cons h.1.1 es X.env) (sE a e .b X W se G h.1.2) (sAb r es X W se G h.2)
  | .ext o a es, e, X, W, se, G, h => by simp [chA] at h
  | .iex o a es, e, X, W, se, G, h => by simp [chA] at h
  | .var i, e, X, W, se, G, h => by simp [chA] at h
  | .bor i, e, X, W, se, G, h => by simp [chA] at h
  | .kint i, e, X, W, se, G, h => by simp [chA] at h
  | .kstr w, e, X, W, se, G, h => by simp [chA] at h
  | .kbl b, e, X, W, se, G, h => by simp [chA] at h
  | .knon, e, X, W, se, G, h => by simp [chA] at h
  | .gint j i, e, X, W, se, G, h => by simp [chA] at h
  | .gstr j w, e, X, W, se, G, h => by simp [chA] at h
  | .bin o a b, e, X, W, se, G, h => by simp [chA] at h
  | .binN o a b, e, X, W, se, G, h => by simp [chA] at h
  | .neg a, e, X, W, se, G, h => by simp [chA] at h
  | .cmp o a b, e, X, W, se, G, h => by simp [chA] at h
  | .chn o o' a b c, e, X, W, se, G, h => by simp [chA] at h
  | .andv a r, e, X, W, se, G, h => by simp [chA] at h
  | .orv a r, e, X, W, se, G, h => by simp [chA] at h
  | .one a, e, X, W, se, G, h => by simp [chA] at h
  | .notv a, e, X, W, se, G, h => by simp [chA] at h
  | .ite t a b, e, X, W, se, G, h => by simp [chA] at h
  | .tval a, e, X, W, se, G, h => by simp [chA] at h
  | .tcmp o a b, e, X, W, se, G, h => by simp [chA] at h
  | .tchn o o' a b c, e, X, W, se, G, h => by simp [chA] at h
  | .tnot a, e, X, W, se, G, h => by simp [chA] at h
  | .tw a, e, X, W, se, G, h => by simp [chA] at h
  | .tand a r, e, X, W, se, G, h => by simp [chA] at h
  | .tor a r, e, X, W, se, G, h => by simp [chA] at h
  | .tone a, e, X, W, se, G, h => by simp [chA] at h
  | .tyes, e, X, W, se, G, h => by simp [chA] at h
  | .tup es, e, X, W, se, G, h => by simp [chA] at h
  | .lst es, e, X, W, se, G, h => by simp [chA] at h
  | .cal b es, e, X, W, se, G, h => by simp [chA] at h
  | .listN es, e, X, W, se, G, h => by simp [chA] at h
  | .tupC es, e, X, W, se, G, h => by simp [chA] at h
  | .intC es, e, X, W, se, G, h => by simp [chA] at h
  | .isi t a, e, X, W, se, G, h => by simp [chA] at h
  | .isi2 t u a, e, X, W, se, G, h => by simp [chA] at h
  | .call j es, e, X, W, se, G, h => by simp [chA] at h
  | .calls j i es, e, X, W, se, G, h => by simp [chA] at h
  | .ix a b, e, X, W, se, G, h => by simp [chA] at h
  | .sl a lo hi, e, X, W, se, G, h => by simp [chA] at h
  | .slN a lo hi, e, X, W, se, G, h => by simp [chA] at h
  | .pn, e, X, W, se, G, h => by simp [chA] at h
  | .ps a, e, X, W, se, G, h => by simp [chA] at h
  | .lc own tg it c elt, e, X, W, se, G, h => by simp [chA] at h
  | .lc2 own tg it c tg1 it1 c1 elt, e, X, W, se, G, h => by simp [chA] at h
  | .seq a, e, X, W, se, G, h => by simp [chA] at h
  | .r1 es, e, X, W, se, G, h => by simp [chA] at h
  | .r2 es, e, X, W, se, G, h => by simp [chA] at h
  | .r3 es, e, X, W, se, G, h => by simp [chA] at h
theorem sI : ∀ (x : Ex) (tt : Bool) (tg e : Expr) (ht : tt = true → ∃ es kk p, tg = Expr.Tuple es kk p) (X : Cx) (W : WX) (se : SE), Good tb Γ Φ k X W se → chI tb se tt x e = true → DI X Φ W tg e (evI Γ x)
  | .seq a, tt, tg, e, ht, X, W, se, G, h => by
    simp only [chI] at h
    exact di_seq (sE a e .e X W se G h)
  | .r1 es, tt, tg, e, ht, X, W, se, G, h => by
    cases e with
    | Call fe args kws pos => cases fe with
      | Name x p => match args, kws, h with
        | [a], [], h =>
          simp only [chI, Bool.and_eq_true, decide_eq_true_eq] at h
          obtain ⟨⟨⟨h1, h2⟩, h3⟩, h4⟩ := h
          subst h1
          obtain ⟨g1, g2, g3, g4⟩ := blt_of G h2
          exact di_rng1 g1 g2 (star_cons h3 _ _) (sAb es _ X W se G h4)
        | [], _, h => simp [chI] at h
        | _ :: _ :: _, _, h => simp [chI] at h
        | [_], _ :: _, h => simp [chI] at h
      | _ => simp [chI] at h
    | _ => simp [chI] at h
  | .r2 es, tt, tg, e, ht, X, W, se, G, h => by
    cases e with
    | Call fe args kws pos => cases fe with
      | Name x p => match args, kws, h with
        | [a, b], [], h =>
          simp only [chI, Bool.and_eq_true, decide_eq_true_eq] at h
          obtain ⟨⟨⟨⟨h1, h2⟩, h3⟩, h4⟩, h5⟩ := h
          subst h1
          obtain ⟨g1, g2, g3, g4⟩ := blt_of G h2
          exact di_rng2 g1 g2 (by rw [star_cons h3, star_cons h4]; rfl) (star_cons h4 _ _) (sAb es _ X W se G h5)
        | [], _, h => simp [chI] at h
        | [_], _, h => simp [chI] at h
        | _ :: _ :: _ :: _, _, h => simp [chI] at h
        | [_, _], _ :: _, h => simp [chI] at h
      | _ => simp [chI] at h
    | _ => simp [chI] at h
  | .r3 es, tt, tg, e, ht, X, W, se, G, h => by
    cases e with
    | Call fe args kws pos => cases fe with
      | Name x p => match args, kws, h with
        | [a, b, c], [], h =>
          simp only [chI, Bool.and_eq_true, decide_eq_true_eq] at h
          obtain ⟨⟨⟨⟨⟨h1, h2⟩, h3⟩, h4⟩, h5⟩, h6⟩ := h
          subst h1
          obtain ⟨g1, g2, g3, g4⟩ := blt_of G h2
          exact di_rng3 g1 g2 (star_cons h3 _ _) (star_any (by simp [h4, h5]) _ _) (sAb es _ X W se G h6)
        | [], _, h => simp [chI] at h
        | [_], _, h => simp [chI] at h
        | [_, _], _, h => simp [chI] at h
        | _ :: _ :: _ :: _ :: _, _, h => simp [chI] at h
        | [_, _, _], _ :: _, h => simp [chI] at h
      | _ => simp [chI] at h
    | _ => simp [chI] at h
  | .iex o a es, tt, tg, e, ht, X, W, se, G, h => by
    simp only [chI] at h
    split at h
    case h_2 => cases h
    case h_1 q hq =>
      simp only [Bool.and_eq_true] at h
      have hb : if q.b = true then DAb X Φ W q.es (evA Γ es) else DA X Φ W q.es (evA Γ es) := by
        cases hq2 : q.b with
        | true => rw [hq2] at h; exact sAb es _ X W se G h.2
        | false => rw [hq2] at h; exact sA es _ X W se G h.2
      exact iex_ok G o tt tg e ht q hq (sE a q.e q.m X W se G h.1) hb
  | .ext o a es, tt, tg, e, ht, X, W, se, G, h => by cases e <;> simp [chI] at h
  | .var i, tt, tg, e, ht, X, W, se, G, h => by cases e <;> simp [chI] at h
  | .bor i, tt, tg, e, ht, X, W, se, G, h => by cases e <;> simp [chI] at h
  | .kint i, tt, tg, e, ht, X, W, se, G, h => by cases e <;> simp [chI] at h
  | .kstr w, tt, tg, e, ht, X, W, se, G, h => by cases e <;> simp [chI] at h
  | .kbl b, tt, tg, e, ht, X, W, se, G, h => by cases e <;> simp [chI] at h
  | .knon, tt, tg, e, ht, X, W, se, G, h => by cases e <;> simp [chI] at h
  | .gint j i, tt, tg, e, ht, X, W, se, G, h => by cases e <;> simp [chI] at h
  | .gstr j w, tt, tg, e, ht, X, W, se, G, h => by cases e <;> simp [chI] at h
  | .bin o a b, tt, tg, e, ht, X, W, se, G, h => by cases e <;> simp [chI] at h
  | .binN o a b, tt, tg, e, ht, X, W, se, G, h => by cases e <;> simp [chI] at h
  | .neg a, tt, tg, e, ht, X, W, se, G, h => by cases e <;> simp [chI] at h
  | .cmp o a b, tt, tg, e, ht, X, W, se, G, h => by cases e <;> simp [chI] at h
  | .chn o o' a b c, tt, tg, e, ht, X, W, se, G, h => by cases e <;> simp [chI] at h
  | .andv a r, tt, tg, e, ht, X, W, se, G, h => by cases e <;> simp [chI] at h
  | .orv a r, tt, tg, e, ht, X, W, se, G, h => by cases e <;> simp [chI] at h
  | .one a, tt, tg, e, ht, X, W, se, G, h => by cases e <;> simp [chI] at h
  | .notv a, tt, tg, e, ht, X, W, se, G, h => by cases e <;> simp [chI] at h
  | .ite t a b, tt, tg, e, ht, X, W, se, G, h => by cases e <;> simp [chI] at h
  | .tval a, tt, tg, e, ht, X, W, se, G, h => by cases e <;> simp [chI] at h
  | .tcmp o a b, tt, tg, e, ht, X, W, se, G, h => by cases e <;> simp [chI] at h
  | .tchn o o' a b c, tt, tg, e, ht, X, W, se, G, h => by cases e <;> simp [chI] at h
  | .tnot a, tt, tg, e, ht, X, W, se, G, h => by cases e <;> simp [chI] at h
  | .tw a, tt, tg, e, ht, X, W, se, G, h => by cases e <;> simp [chI] at h
  | .tand a r, tt, tg, e, ht, X, W, se, G, h => by cases e <;> simp [chI] at h
  | .tor a r, tt, tg, e, ht, X, W, se, G, h => by cases e <;> simp [chI] at h
  | .tone a, tt, tg, e, ht, X, W, se, G, h => by cases e <;> simp [chI] at h
  | .tyes, tt, tg, e, ht, X, W, se, G, h => by cases e <;> simp [chI] at h
  | .tup es, tt, tg, e, ht, X, W, se, G, h => by cases e <;> simp [chI] at h
  | .lst es, tt, tg, e, ht, X, W, se, G, h => by cases e <;> simp [chI] at h
  | .nil, tt, tg, e, ht, X, W, se, G, h => by cases e <;> simp [chI] at h
  | .cons a r, tt, tg, e, ht, X, W, se, G, h => by cases e <;> simp [chI] at h
  | .cal b es, tt, tg, e, ht, X, W, se, G, h => by cases e <;> simp [chI] at h
  | .listN es, tt, tg, e, ht, X, W, se, G, h => by cases e <;> simp [chI] at h
  | .tupC es, tt, tg, e, ht, X, W, se, G, h => by cases e <;> simp [chI] at h
  | .intC es, tt, tg, e, ht, X, W, se, G, h => by cases e <;> simp [chI] at h
  | .isi t a, tt, tg, e, ht, X, W, se, G, h => by cases e <;> simp [chI] at h
  | .isi2 t u a, tt, tg, e, ht, X, W, se, G, h => by cases e <;> simp [chI] at h
  | .call j es, tt, tg, e, ht, X, W, se, G, h => by cases e <;> simp [chI] at h
  | .calls j i es, tt, tg, e, ht, X, W, se, G, h => by cases e <;> simp [chI] at h
  | .ix a b, tt, tg, e, ht, X, W, se, G, h => by cases e <;> simp [chI] at h
  | .sl a lo hi, tt, tg, e, ht, X, W, se, G, h => by cases e <;> simp [chI] at h
  | .slN a lo hi, tt, tg, e, ht, X, W, se, G, h => by cases e <;> simp [chI] at h
  | .pn, tt, tg, e, ht, X, W, se, G, h => by cases e <;> simp [chI] at h
  | .ps a, tt, tg, e, ht, X, W, se, G, h => by cases e <;> simp [chI] at h
  | .lc own tg it c elt, tt, tg2, e, ht, X, W, se, G, h => by cases e <;> simp [chI] at h
  | .lc2 own tg it c tg1 it1 c1 elt, tt, tg2, e, ht, X, W, se, G, h => by cases e <;> simp [chI] at h
theorem sP : ∀ (x : Ex) (e : Option Expr) (X : Cx) (W : WX) (se : SE), Good tb Γ Φ k X W se → chP tb se x e = true → DO X Φ W e (evP Γ x)
  | .pn, e, X, W, se, G, h => by
    cases e with
    | none => exact do_none
    | some _ => simp [chP] at h
  | .ps a, e, X, W, se, G, h => by
    cases e with
    | none => simp [chP] at h
    | some e =>
      simp only [chP] at h
      exact do_some (sE a e .e X W se G h)
  | .ext o a es, e, X, W, se, G, h => by simp [chP] at h
  | .iex o a es, e, X, W, se, G, h => by simp [chP] at h
  | .var i, e, X, W, se, G, h => by simp [chP] at h
  | .bor i, e, X, W, se, G, h => by simp [chP] at h
  | .kint i, e, X, W, se, G, h => by simp [chP] at h
  | .kstr w, e, X, W, se, G, h => by simp [chP] at h
  | .kbl b, e, X, W, se, G, h => by simp [chP] at h
  | .knon, e, X, W, se, G, h => by simp [chP] at h
  | .gint j i, e, X, W, se, G, h => by simp [chP] at h
  | .gstr j w, e, X, W, se, G, h => by simp [chP] at h
  | .bin o a b, e, X, W, se, G, h => by simp [chP] at h
  | .binN o a b, e, X, W, se, G, h => by simp [chP] at h
  | .neg a, e, X, W, se, G, h => by simp [chP] at h
  | .cmp o a b, e, X, W, se, G, h => by simp [chP] at h
  | .chn o o' a b c, e, X, W, se, G, h => by simp [chP] at h
  | .andv a r, e, X, W, se, G, h => by simp [chP] at h
  | .orv a r, e, X, W, se, G, h => by simp [chP] at h
  | .one a, e, X, W, se, G, h => by simp [chP] at h
  | .notv a, e, X, W, se, G, h => by simp [chP] at h
  | .ite t a b, e, X, W, se, G, h => by simp [chP] at h
  | .tval a, e, X, W, se, G, h => by simp [chP] at h
  | .tcmp o a b, e, X, W, se, G, h => by simp [chP] at h
  | .tchn o o' a b c, e, X, W, se, G, h => by simp [chP] at h
  | .tnot a, e, X, W, se, G, h => by simp [chP] at h
  | .tw a, e, X, W, se, G, h => by simp [chP] at h
  | .tand a r, e, X, W, se, G, h => by simp [chP] at h
  | .tor a r, e, X, W, se, G, h => by simp [chP] at h
  | .tone a, e, X, W, se, G, h => by simp [chP] at h
  | .tyes, e, X, W, se, G, h => by simp [chP] at h
  | .tup es, e, X, W, se, G, h => by simp [chP] at h
  | .lst es, e, X, W, se, G, h => by simp [chP] at h
  | .nil, e, X, W, se, G, h => by simp [chP] at h
  | .cons a r, e, X, W, se, G, h => by simp [chP] at h
  | .cal b es, e, X, W, se, G, h => by simp [chP] at h
  | .listN es, e, X, W, se, G, h => by simp [chP] at h
  | .tupC es, e, X, W, se, G, h => by simp [chP] at h
  | .intC es, e, X, W, se, G, h => by simp [chP] at h
  | .isi t a, e, X, W, se, G, h => by simp [chP] at h
  | .isi2 t u a, e, X, W, se, G, h => by simp [chP] at h
  | .call j es, e, X, W, se, G, h => by simp [chP] at h
  | .calls j i es, e, X, W, se, G, h => by simp [chP] at h
  | .ix a b, e, X, W, se, G, h => by simp [chP] at h
  | .sl a lo hi, e, X, W, se, G, h => by simp [chP] at h
  | .slN a lo hi, e, X, W, se, G, h => by simp [chP] at h
  | .lc own tg it c elt, e, X, W, se, G, h => by simp [chP] at h
  | .lc2 own tg it c tg1 it1 c1 elt, e, X, W, se, G, h => by simp [chP] at h
  | .seq a, e, X, W, se, G, h => by simp [chP] at h
  | .r1 es, e, X, W, se, G, h => by simp [chP] at h
  | .r2 es, e, X, W, se, G, h => by simp [chP] at h
  | .r3 es, e, X, W, se, G, h => by simp [chP] at h
end
end Cut
namespace Cut
open PySem PySem.Spec L2
open PyProof.Rows hiding St
section
variable {X : Cx} {Φ : Fx} {W : WX} {pos : Pos}
/-! ### x, y = a, b -/
def parS (i j : Nat) (g : DS → Rs (List D)) : DS → Rst := fun s => (g s).then fun ds s => match ds with
  | [x, y] => if i < s.env.length ∧ j < s.env.length then .nx { s with env := (s.env.set i (some (.im x))).set j (some (.im y)) } else .bad
  | _ => .bad
theorem ds_par {i j : Nat} {x y : Str} {a b : Expr} {g : DS → Rs (List D)} {px py pt pt2 : Pos} {kt k2 : Nat} (hc : X.calm = true) (hN : X.N.Nodup) (hi : X.N[i]? = some x) (hj : X.N[j]? = some y) (hij : i ≠ j)
    (hx : X.env.scope.names.lookup x = some .local) (hy : X.env.scope.names.lookup y = some .local) (ha : DA X Φ W [a, b] g)
    (hw : swappedStores [.Tuple [.Name x px, .Name y py] kt pt] (.Tuple [a, b] k2 pt2) X.env = pure (some [x, y])) :
    DSt X Φ W (.Assign [.Tuple [.Name x px, .Name y py] kt pt] (.Tuple [a, b] k2 pt2) pos) (parS i j g) :=
  PS.imp (ps_par hc hN hi hj hij hx hy ha hw rfl) fun E σ H ⟨F, s, R, q⟩ => ⟨F, s, R, (HoldS.then q).imp fun F1 H1 ds s1 R1 e1 h1 vs rv => by
    match ds, h1, rv with
    | [d, e], h1, rv =>
      obtain ⟨v, r, rfl, hv, hr⟩ := reps_cons.mp rv
      obtain ⟨w, r2, rfl, hw, hr2⟩ := reps_cons.mp hr
      rw [reps_nil] at hr2
      subst hr2
      dsimp only at h1
      split at h1
      case isTrue hl =>
        exact ⟨v, w, rfl, h1 F1 _ H1 (Same.refl _) ((R1.set hl.1 hv).set (by simpa using hl.2) hw)⟩
      · exact h1.elim
    | [], h1, _ => exact h1.elim
    | [_], h1, _ => exact h1.elim
    | _ :: _ :: _ :: _, h1, _ => exact h1.elim⟩
theorem blk_kind {env : Env} (hk : env.scope.kind = .function) : env.blockKind = .function := by unfold Env.blockKind; rw [hk]; rfl
theorem star_no {a : Expr} (ha : notStar a = true) : (match (generalizing := false) a with | .Starred .. => true | _ => false) = false := by cases a <;> first | rfl | exact Bool.noConfusion (show false = true from ha)
theorem sst_two {env : Env} {x y : Str} {px py pt pt2 : Pos} {kt k2 : Nat} {a b : Expr} (hk : env.scope.kind = .function) (hx : env.scope.names.lookup x = some .local) (hy : env.scope.names.lookup y = some .local) (hxy : x ≠ y)
    (hl : (py.line == px.line) = true) (ha : notStar a = true) (hb : notStar b = true) (hf : [a, b].all (foldedForSure 8) = false) (hc : [a, b].all (constantsAlone 8) = false) :
    swappedStores [.Tuple [.Name x px, .Name y py] kt pt] (.Tuple [a, b] k2 pt2) env = pure (some [x, y]) := by
  have kx : env.kindOf x = some .local := hx
  have ky : env.kindOf y = some .local := hy
  have ha' := star_no ha
  have hb' := star_no hb
  have hxy' : (y == x) = false := by simpa using Ne.symm hxy
  unfold swappedStores
  simp only [hf, hc, blk_kind hk, kx, ky]
  simp [ha', hb', Expr.pos, hl, hxy', List.filterMap, kx, ky, List.eraseDups, List.eraseDupsBy, List.eraseDupsBy.loop, hxy]
  intro h
  exfalso
  rcases h with h | h
  · cases a <;> first | exact Bool.noConfusion h | exact Bool.noConfusion (show false = true from ha)
  · cases b <;> first | exact Bool.noConfusion h | exact Bool.noConfusion (show false = true from hb)
/-- the stores that stand as they are -/
def swapNo (sc : Scope) (ts : List Expr) (e : Expr) : Bool := match e with
  | .Tuple vs _ _ => !(ts.length == 2 || ts.length == 3) || vs.length != ts.length || (!(vs.any fun | .Starred .. => true | _ => false) && ((ts.any fun | .Name id _ => !decide (sc.names.lookup id = some .local) | _ => true) || vs.all (foldedForSure 8)))
  | _ => true
theorem filterMap_lt {α β : Type} (f : α → Option β) : ∀ l : List α, (l.any fun x => (f x).isNone) = true → (l.filterMap f).length < l.length
  | [], h => by cases h
  | x :: r, h => by
    rw [List.any_cons, Bool.or_eq_true] at h
    have le := List.length_filterMap_le f r
    cases e : f x with
    | none => rw [List.filterMap_cons_none e, List.length_cons]; omega
    | some y =>
      rw [List.filterMap_cons_some e, List.length_cons, List.length_cons]
      rw [e] at h
      have := filterMap_lt f r (h.resolve_left (by simp))
      omega
theorem sst_no {env : Env} {sc : Scope} {ts : List Expr} {k : Nat} {pt : Pos} {e : Expr} (hsc : env.scope = sc) (hk : env.scope.kind = .function) (h : swapNo sc ts e = true) : swappedStores [.Tuple ts k pt] e env = pure none := by
  unfold swapNo at h
  split at h
  case h_2 hne =>
    cases e <;> first | rfl | exact absurd rfl (hne _ _ _)
  case h_1 vs p1 p2 =>
    unfold swappedStores
    simp only [blk_kind hk]
    split
    · rfl
    · split
      · rfl
      · split
        · rfl
        · split
          · rfl
          · rename_i n1 n2 n3 n4
            exfalso
            rw [Bool.or_eq_true, Bool.and_eq_true, Bool.or_eq_true (List.any _ _)] at h
            rcases h with h | ⟨_, h | h⟩
            · exact n1 (by rw [h]; rfl)
            · refine n3 ?_
              rw [Bool.or_eq_true]
              refine .inl (bne_iff_ne.mpr (Nat.ne_of_lt (filterMap_lt _ ts ?_)))
              rw [List.any_eq_true] at h ⊢
              obtain ⟨t, ht, h⟩ := h
              refine ⟨t, ht, ?_⟩
              cases t <;> first | rfl | skip
              rename_i id pos
              have e1 : ¬ (sc.names.lookup id = some .local) := by simpa using h
              have e2 : (env.kindOf id == some NameKind.local) = false := by
                rw [← hsc] at e1
                rw [beq_eq_false_iff_ne]
                exact e1
              simp [e2]
            · exact n4 h
/-! ### a, b = e, e no pair that stands there -/
def unpS (t : D → DS → Option DS) (f : DS → Rs D) : DS → Rst := fun s => (f s).then fun d s => match t d s with
  | some s => .nx s
  | none => .bad
theorem ds_unp {tg e : Expr} {vs : List Nat} {t : D → DS → Option DS} {f : DS → Rs D} (he : DE X Φ W e f) (hg : DG X Φ tg vs t) (hs : swapsWithSole [tg] e pos.line X.env = pure false) (hw : swappedStores [tg] e X.env = pure none)
    (h1 : (assignEach [tg] X.env).map (·.2) = [assign tg X.env]) : DSt X Φ W (.Assign [tg] e pos) (unpS t f) :=
  PS.imp (ps_asg he hg hs hw h1) fun E σ H ⟨F, s, R, q⟩ => ⟨F, s, R, (HoldS.then q).imp fun F1 H1 d s1 R1 e1 h2 v rv => by
    cases z : t d s1 with
    | none => rw [z] at h2; exact h2.elim
    | some s2 =>
      rw [z] at h2
      exact ⟨F1, s1, d, s2, R1, rv, z, fun σ' _ _ _ R' => h2 F1 σ' H1 (Same.refl _) R'⟩⟩
/-! ### name = [.. for ..] on one line -/
theorem ds_setLc {i : Nat} {y : Str} {py : Pos} {elt tg iter : Expr} {ifs : List Expr} {scope : Scope} {own : List (Str × Nat)} {vs : List Nat} {fi : DS → Rs (List D)} {t : D → DS → Option DS} {c : DS → Rs Bool} {f : DS → Rs D} {spos : Pos} {o : Bool} (hc : X.calm = true) (hN : X.N.Nodup) (hy : X.N[i]? = some y) (hyl : X.env.scope.names.lookup y = some .local)
    (hsw : swapsWith (.ListComp elt [⟨tg, iter, ifs, 0⟩] scope pos) (some (.Name y py)) spos.line X.env = pure true) (hvs : ∀ v ∈ vs, v ∈ own.map (·.2)) (hi : DI X Φ W tg iter fi) (ok : BlkOk X.N X.env.scope scope own)
    (hg : ∀ (s : Shared) (H : Hp) (C : Addr) (cl : List (Str × Addr)) (fp : List Addr), DG (X.blk s H scope (compEnvC scope cl C X.env) fp) Φ tg vs t) (ht : ∀ (s : Shared) (H : Hp) (C : Addr) (cl : List (Str × Addr)) (fp : List Addr), DTs (X.blk s H scope (compEnvC scope cl C X.env) fp) Φ WF ifs c)
    (he : ∀ (s : Shared) (H : Hp) (C : Addr) (cl : List (Str × Addr)) (fp : List Addr), DE (X.blk s H scope (compEnvC scope cl C X.env) fp) Φ WF elt f) (hs : ∀ x, foldedSetIterable iter X.env x = pure x) :
    DSt X Φ W (.Assign [.Name y py] (.ListComp elt [⟨tg, iter, ifs, 0⟩] scope pos) spos) ((if o = true then asgN else asgS) i (lcS (own.map (·.2)) fi t c f)) :=
  PS.imp (ps_setLc (te := tD X.K X.mg Φ WF f) (tt := tTs X.K X.mg Φ WF c) (wi := tI X.K X.mg Φ W fi) (g := tG X.K Φ vs t) hc hN hy hyl hsw hi ok hg ht he hs) fun E σ H ⟨F, s, R, q⟩ => by
    refine ⟨F, s, R, ?_⟩
    have q2 : Hold X.K X.mg Φ W F σ H s (lcS (own.map (·.2)) fi t c f s) fun F1 H1 d s1 => ∀ p o, H1 p = none → CellO X.K Φ.cc F1 o d → gName i (.ref p) σ (upd H1 p o) E.nx := by
      cases o with
      | true =>
        exact (HoldS.then q).imp fun F1 H1 d s1 R1 e1 h1 p o np c => by
          split at h1
          case isTrue hl => exact h1 F1 _ _ (Same.refl _) (R1.setOwn hl np c)
          · exact h1.elim
      | false =>
        exact (HoldS.then q).imp fun F1 H1 d s1 R1 e1 h1 p o np c => by
          split at h1
          case isTrue hl =>
            obtain ⟨g, r⟩ := freeze R1.fh np c
            exact h1 _ _ _ g.mono ((R1.gr g).set hl r)
          · exact h1.elim
    exact (Hold.bind q2).imp fun F1 H1 items s1 R1 e1 h1 J ij A hA => by
      split at h1
      case isTrue hcd =>
        cases run : lcL (own.map (·.2)) t c f items [] s1 with
        | ok acc s2 =>
          rw [run] at h1
          exact lc_turns (mg := X.mg) (Q := fun x H => gName i x σ H E.nx) hvs R1 ij hcd run (fun F' H' R' e' => h1 F' H' R' e') A hA
        | exc _ _ => rw [run] at h1; exact h1.elim
        | bad => rw [run] at h1; exact h1.elim
      · exact h1.elim
theorem ds_setLc2 {i : Nat} {y : Str} {py : Pos} {elt tg iter tg1 iter1 : Expr} {ifs ifs1 : List Expr} {scope : Scope} {own : List (Str × Nat)} {vs vs1 : List Nat} {fi fi1 : DS → Rs (List D)} {t t1 : D → DS → Option DS} {c c1 : DS → Rs Bool} {f : DS → Rs D} {spos : Pos} {o : Bool} (hc : X.calm = true) (hN : X.N.Nodup) (hy : X.N[i]? = some y) (hyl : X.env.scope.names.lookup y = some .local)
    (hsw : swapsWith (.ListComp elt [⟨tg, iter, ifs, 0⟩, ⟨tg1, iter1, ifs1, 0⟩] scope pos) (some (.Name y py)) spos.line X.env = pure true) (hvs : ∀ v ∈ vs, v ∈ own.map (·.2)) (hv1 : ∀ v ∈ vs1, v ∈ own.map (·.2)) (hi : DI X Φ W tg iter fi) (ok : BlkOk X.N X.env.scope scope own)
    (hg : ∀ (s : Shared) (H : Hp) (C : Addr) (cl : List (Str × Addr)) (fp : List Addr), DG (X.blk s H scope (compEnvC scope cl C X.env) fp) Φ tg vs t) (ht : ∀ (s : Shared) (H : Hp) (C : Addr) (cl : List (Str × Addr)) (fp : List Addr), DTs (X.blk s H scope (compEnvC scope cl C X.env) fp) Φ WF ifs c)
    (hi1 : ∀ (s : Shared) (H : Hp) (C : Addr) (cl : List (Str × Addr)) (fp : List Addr), DI (X.blk s H scope (compEnvC scope cl C X.env) fp) Φ WF tg1 iter1 fi1)
    (hg1 : ∀ (s : Shared) (H : Hp) (C : Addr) (cl : List (Str × Addr)) (fp : List Addr), DG (X.blk s H scope (compEnvC scope cl C X.env) fp) Φ tg1 vs1 t1) (ht1 : ∀ (s : Shared) (H : Hp) (C : Addr) (cl : List (Str × Addr)) (fp : List Addr), DTs (X.blk s H scope (compEnvC scope cl C X.env) fp) Φ WF ifs1 c1)
    (he : ∀ (s : Shared) (H : Hp) (C : Addr) (cl : List (Str × Addr)) (fp : List Addr), DE (X.blk s H scope (compEnvC scope cl C X.env) fp) Φ WF elt f) (hs : ∀ x, foldedSetIterable iter X.env x = pure x) (hs1 : ∀ env x, foldedSetIterable iter1 env x = pure x) :
    DSt X Φ W (.Assign [.Name y py] (.ListComp elt [⟨tg, iter, ifs, 0⟩, ⟨tg1, iter1, ifs1, 0⟩] scope pos) spos) ((if o = true then asgN else asgS) i (lc2S (own.map (·.2)) vs1 fi t c fi1 t1 c1 f)) :=
  PS.imp (ps_setLc2 (vs1 := vs1) (te := tD X.K X.mg Φ WF f) (tt := tTs X.K X.mg Φ WF c) (wi := tI X.K X.mg Φ W fi) (g := tG X.K Φ vs t) (wi1 := tI X.K X.mg Φ WF fi1) (g1 := tG X.K Φ vs1 t1) (tt1 := tTs X.K X.mg Φ WF c1) hc hN hy hyl hsw hi ok hv1 hg ht hi1 hg1 ht1 he hs hs1) fun E σ H ⟨F, s, R, q⟩ => by
    refine ⟨F, s, R, ?_⟩
    have q2 : Hold X.K X.mg Φ W F σ H s (lc2S (own.map (·.2)) vs1 fi t c fi1 t1 c1 f s) fun F1 H1 d s1 => ∀ p o, H1 p = none → CellO X.K Φ.cc F1 o d → gName i (.ref p) σ (upd H1 p o) E.nx := by
      cases o with
      | true =>
        exact (HoldS.then q).imp fun F1 H1 d s1 R1 e1 h1 p o np c => by
          split at h1
          case isTrue hl => exact h1 F1 _ _ (Same.refl _) (R1.setOwn hl np c)
          · exact h1.elim
      | false =>
        exact (HoldS.then q).imp fun F1 H1 d s1 R1 e1 h1 p o np c => by
          split at h1
          case isTrue hl =>
            obtain ⟨g, r⟩ := freeze R1.fh np c
            exact h1 _ _ _ g.mono ((R1.gr g).set hl r)
          · exact h1.elim
    exact (Hold.bind q2).imp fun F1 H1 items s1 R1 e1 h1 J ij A hA => by
      split at h1
      case isTrue hcd =>
        cases run : lc2L (own.map (·.2)) vs1 t c fi1 t1 c1 f items [] s1 with
        | ok acc s2 =>
          rw [run] at h1
          exact lc2_turns (mg := X.mg) (Q := fun x H => gName i x σ H E.nx) hvs hv1 (fun v hv => hv) R1 ij hcd run (fun F' H' R' e' => h1 F' H' R' e') A hA
        | exc _ _ => rw [run] at h1; exact h1.elim
        | bad => rw [run] at h1; exact h1.elim
      · exact h1.elim
end
end Cut
namespace Cut
open PySem PySem.Spec L2
open PyProof.Rows hiding St

/-! ### further statements -/
/-- the parts of a statement -/
structure Pt where
  e : Expr
  m : Md
  e2 : Expr
  m2 : Md
  es : List Expr
  b : Bool
theorem own_lst' {K : PySem.W.Frag} {Φ : Fx} {F H : Hp} {σ : St} {s : DS} (R : Rel K Φ F σ H s) {i : Nat} {xs : List D} (e : s.env[i]? = some (some (.own (.lst xs)))) : ∃ a vs, σ[i]? = some (some (.ref a)) ∧ H a = some (.lst vs) ∧ Reps K Φ.cc F xs vs := by
  obtain ⟨v, e1, a, o, rfl, h0, hf, hh, vs, rfl, r⟩ := R.env i _ e
  exact ⟨a, vs, e1, hh, r⟩
/-- x[b] = a, x a list of the def's own -/
def setIS (i : Nat) (f g : DS → Rs D) : DS → Rst := fun s => (f s).then fun e s1 => match s1.env[i]? with
  | some (some (.own (.lst _))) => (g s1).then fun d s2 => match d, s2.env[i]? with
    | .int k, some (some (.own (.lst xs))) => (match ixN xs.length k with
      | some j => .nx { s2 with env := s2.env.set i (some (.own (.lst (xs.set j e)))) }
      | none => .bad)
    | _, _ => .bad
  | _ => .bad
section
variable {X : Cx} {Φ : Fx} {W : WX} {pos : Pos} {f g : DS → Rs D}
theorem ds_setI {i : Nat} {x : Str} {a b : Expr} {p q : Pos} (hv1 : X.N[i]? = some x) (hv2 : Vis X.env.scope x) (hv3 : (x == ("__debug__" : Str)) = false) (hv4 : (x == ("__classdict__" : Str)) = false)
    (he : DE X Φ W a f) (hb : DE X Φ W b g) (hs : swapsWithSole [.Subscript (.Name x p) b q] a pos.line X.env = pure false) (hw : swappedStores [.Subscript (.Name x p) b q] a X.env = pure none)
    (ha : ∀ v, assign (.Subscript (.Name x p) b q) X.env v = (do
      let ov ← holding [v] (eval (.Name x p) X.env)
      let iv ← holding [v, ov] (eval b X.env)
      standAt q
      holding [v, ov, iv] (setItem ov iv v)
      release [v, ov, iv] [])) :
    DSt X Φ W (.Assign [.Subscript (.Name x p) b q] a pos) (setIS i f g) :=
  PS.imp (ps_asg he (pg_sub (pe_var hv1 hv2 hv3 hv4) hb set_list ha) hs hw rfl) fun E σ H ⟨F, s, R, h⟩ => ⟨F, s, R, by
    unfold setIS at h
    refine (HoldS.then h).imp fun F1 H1 e s1 R1 e1 h1 v rv => ?_
    split at h1
    case h_1 xs0 e0 =>
      obtain ⟨a', vs, q1, q2, q3⟩ := own_lst' R1 e0
      refine ⟨_, q1, F1, s1, R1, (HoldS.then h1).imp fun F2 H2 d s2 R2 e2 h2 w rw => ?_⟩
      split at h2
      case h_1 k xs e3 =>
        split at h2
        case h_1 j hj =>
          obtain ⟨a2, vs2, q4, q5, q6⟩ := own_lst' R2 e3
          rw [q1] at q4
          cases q4
          unfold Rep at rw
          subst rw
          refine ⟨a', vs2, k, j, rfl, rfl, q5, by rw [q6.len]; exact hj, ?_⟩
          exact h2 F2 σ _ (Same.refl _) (R2.chg e3 q1 ⟨_, rfl, q6.set j (Rep.mono e2.mono _ _ rv)⟩)
        · exact h2.elim
      · exact h2.elim
    · exact h1.elim⟩
end
inductive So where
  | setI (i : Nat)
def So.ev (Γ : Gam) : So → (DS → Rs D) → (DS → Rs D) → (DS → Rs (List D)) → DS → Rst
  | .setI i, f, g, _ => setIS i f g
def plainIx' : Expr → Bool
  | .Constant _ _ _ => true
  | .Name _ _ => true
  | .BinOp _ _ _ _ => true
  | .UnaryOp _ _ _ => true
  | .Call _ _ _ _ => true
  | _ => false
def notCompE : Expr → Bool
  | .ListComp _ _ _ _ => false
  | .SetComp _ _ _ _ => false
  | .DictComp _ _ _ _ _ => false
  | _ => true
/-- name[b] = a -/
def asSet : Stmt → Option (Str × Pos × Expr × Pos × Expr × Pos)
  | .Assign [.Subscript (.Name x p) b q] a pos => some (x, p, b, q, a, pos)
  | _ => none
theorem asSet_of {st : Stmt} {x : Str} {p q pos : Pos} {a b : Expr} (h : asSet st = some (x, p, b, q, a, pos)) : st = .Assign [.Subscript (.Name x p) b q] a pos := by
  unfold asSet at h
  split at h
  · cases h; rfl
  · cases h
def So.parse (tb : Tb) (se : SE) : So → Stmt → Option Pt
  | .setI i, st => (asSet st).bind fun (x, p, b, q, a, pos) => if se.vis i x && plainIx' b && notCompE a then some ⟨a, .e, b, .e, [], false⟩ else none
section
variable {tb : Tb} {Γ : Gam} {Φ : Fx} {k : Nat} {X : Cx} {W : WX} {se : SE}
theorem sx_ok (G : Good tb Γ Φ k X W se) (o : So) (st : Stmt) (q : Pt) (h : o.parse tb se st = some q) {f f2 : DS → Rs D} {g : DS → Rs (List D)} (ha : Jm q.m X Φ W q.e f) (ha2 : Jm q.m2 X Φ W q.e2 f2) (hb : if q.b = true then DAb X Φ W q.es g else DA X Φ W q.es g) :
    DSt X Φ W st (o.ev Γ f f2 g) := by
  cases o with
  | setI i =>
    obtain ⟨⟨x, p, b, q, a, pos⟩, e1, h'⟩ := Option.bind_eq_some_iff.mp h
    have := asSet_of e1
    subst this
    clear h
    dsimp only at h'
    split at h'
    case isFalse => cases h'
    case isTrue hc =>
      cases h'
      simp only [Bool.and_eq_true] at hc
      obtain ⟨v1, v2, v3, v4⟩ := vis_of G hc.1.1
      refine ds_setI v1 v2 v3 v4 ha ha2 ?_ ?_ ?_
      · have hx := hc.2
        cases a <;> first | rfl | cases hx
      · cases a <;> rfl
      · intro v
        have hx := hc.1.2
        cases b <;> first | rfl | cases hx
end
end Cut
namespace Cut
open PySem PySem.Spec L2
open PyProof.Rows hiding St

/-! ### an own error without fields, raised -/
structure ErrC (K : PySem.W.Frag) (C : Addr) : Prop where
  ex : PySem.W.excIn K C [.type "ValueError", .type "Exception", .type "BaseException", .type "object"] "ValueError.__new__" = true
  kp : PySem.W.keepIn K (.ref C) = true
  sub : PySem.W.subIn K (.ref C) (.type "BaseException") = some true
  ty : PySem.W.typeIn K (.ref C) = some (.type "type")
section
variable {X : Cx} {Φ : Fx} {W : WX} {pos : Pos}
theorem pmk_own0 {C : Addr} {x : Str} {p : Pos} (c : ErrC X.K C) (gC : X.mg x = some (.ref C)) (hg : Gl X x) (hdb : (x == ("__debug__" : Str)) = false) :
    PMk X (.Call (.Name x p) [] [] pos) (fun _ H Q => Q (.ref C) none H) := by
  intro pins s σ H Q I h
  refine wpAny_Call_Name_kw (ld_glob I hg gC ?_ hdb)
  refine PySem.W.callWith_K0 I.kIn c.kp ?_
  show wpAny _ _ (call (.ref C) []) _ _ _
  obtain ⟨bm, N, nm, qn, bs, hdct, sn, sub, ab, col, dd, k0, k1, k2, k3, k5, mN, hC, hN, hni, T⟩ := exc_obj I.kIn c.ex
  refine wpAny_call_exc_subT PySem.F.excBase_ValueError T hC hN hni (fun h' e hm => ?_) (Nat.zero_le _)
  exact mk_of I hm (raises_own c.sub c.ty) h (I.hok.gone hm.new)
def raiseS (x : Str) : DS → Rst := fun s => .exc ⟨x, []⟩ s
theorem ds_raise0 {C : Addr} {x : Str} {p : Pos} (hc : X.calm = true) (tk : Takes X W) (c : ErrC X.K C) (gC : X.mg x = some (.ref C)) (hg : Gl X x) (hdb : (x == ("__debug__" : Str)) = false) :
    DSt X Φ W (.Raise (some (.Call (.Name x p) [] [] pos)) none pos) (raiseS x) :=
  PS.imp (ps_raise hc tk (pmk_own0 c gC hg hdb)) fun E σ H ⟨F, s, R, h⟩ => h F σ H (.ref C) none (Same.refl _) R ⟨C, gC, rfl, .inl ⟨rfl, rfl⟩⟩
theorem ds_raise0' {C : Addr} {x : Str} {p pos' : Pos} (hc : X.calm = true) (tk : Takes X W) (c : ErrC X.K C) (gC : X.mg x = some (.ref C)) (hg : Gl X x) (hdb : (x == ("__debug__" : Str)) = false) :
    DSt X Φ W (.Raise (some (.Call (.Name x p) [] [] pos)) none pos') (raiseS x) :=
  PS.imp (ps_raise hc tk (pmk_own0 c gC hg hdb)) fun E σ H ⟨F, s, R, h⟩ => h F σ H (.ref C) none (Same.refl _) R ⟨C, gC, rfl, .inl ⟨rfl, rfl⟩⟩
theorem ds_never {st : Stmt} : DSt X Φ W st (fun _ => .bad) := PS.imp ps_never fun E σ H ⟨F, s, R, h⟩ => h

/-! ### name op= e -/
def augS (i : Nat) (op : D → D → Option D) (f : DS → Rs D) : DS → Rst := fun s => match s.env[i]? with
  | some (some (.im d)) => (f s).then fun e s => match op d e with
    | some z => if i < s.env.length then .nx { s with env := s.env.set i (some (.im z)) } else .bad
    | none => .bad
  | _ => .bad
def iaddD : D → D → Option D
  | .int i, .int j => some (.int (i + j))
  | .str x, .str y => if x.length + y.length ≤ LN then some (.str (x ++ y)) else none
  | _, _ => none
theorem iop_addD : OpD X Φ (inplaceOp .Add) iaddD := by
  intro pins s σ H x y v u Q I rx ry ⟨F, d, e, z, sm, hx, hy, ez, q⟩
  cases d with
  | int i => cases e with
    | int j => cases ez; exact iop_add pins s σ H x y v u Q I rx ry ⟨i, j, hx.int, hy.int, q F H _ (.refl sm) rep_int⟩
    | _ => cases ez
  | str a => cases e with
    | str b =>
      unfold iaddD at ez
      dsimp only at ez
      split at ez
      · cases ez
        refine iop_add_str pins s σ H x y v u Q I rx ry ⟨S a, S b, hx.str, hy.str, ?_, ?_⟩
        · rw [S_len, S_len, ← LN_eq]; assumption
        · rw [S_app]; exact q F H _ (.refl sm) rep_str
      · cases ez
    | _ => cases ez
  | _ => cases ez
theorem iop_subD : OpD X Φ (inplaceOp .Sub) subD := by
  intro pins s σ H x y v u Q I rx ry ⟨F, d, e, z, sm, hx, hy, ez, q⟩
  cases d with
  | int i => cases e with
    | int j => cases ez; exact iop_sub pins s σ H x y v u Q I rx ry ⟨i, j, hx.int, hy.int, q F H _ (.refl sm) rep_int⟩
    | _ => cases ez
  | _ => cases ez
theorem ds_aug {i : Nat} {x : Str} {o : Operator} {op : D → D → Option D} {e : Expr} {f : DS → Rs D} {pos' : Pos} (hN : X.N.Nodup) (hi : X.N[i]? = some x) (hx : L2.Loc X.env.scope x) (hf : X.fn x = true ∨ X.env.scope.names.lookup x = some .local) (ho : OpD X Φ (inplaceOp o) op) (he : DB X Φ W e f) :
    DSt X Φ W (.AugAssign (.Name x pos') o e pos) (augS i op f) :=
  PS.imp (ps_aug (ti := rD X.K Φ op) hN hi hx he (fun pins s σ H x y v u Q I r1 r2 q => ho pins s σ H x y v u Q I r1 r2 q) hf) fun E σ H ⟨F, s, R, h⟩ => by
    unfold augS at h
    cases e0 : s.env[i]? with
    | none => rw [e0] at h; exact h.elim
    | some o0 => cases o0 with
      | none => rw [e0] at h; exact h.elim
      | some dv => cases dv with
        | own d => rw [e0] at h; exact h.elim
        | src => rw [e0] at h; exact h.elim
        | me => rw [e0] at h; exact h.elim
        | im d =>
          rw [e0] at h
          obtain ⟨v, e1, r1⟩ := R.env i _ e0
          refine ⟨v, e1, F, s, R, (HoldS.then h).imp fun F1 H1 y s1 R1 e1 h1 u ru => ?_⟩
          cases ez : op d y with
          | none => rw [ez] at h1; exact h1.elim
          | some z =>
            rw [ez] at h1
            dsimp only at h1
            split at h1
            case isTrue hl => exact ⟨F1, d, y, z, R1.fh, .inl (Rep.mono e1.mono _ _ r1), ru, ez, fun F' H' w g rw' => h1 F' _ H' g.mono ((R1.gr g).set hl rw')⟩
            · exact h1.elim

/-! ### x.append(e), x a list of the def's own -/
def appS (i : Nat) (f : DS → Rs D) : DS → Rst := fun s => match s.env[i]? with
  | some (some (.own (.lst _))) => (f s).then fun e s => match s.env[i]? with
    | some (some (.own (.lst xs))) => if xs.length < LN then .nx { s with env := s.env.set i (some (.own (.lst (xs ++ [e])))) } else .bad
    | _ => .bad
  | _ => .bad
theorem own_lst {K : PySem.W.Frag} {F H : Hp} {σ : St} {s : DS} (R : Rel K Φ F σ H s) {i : Nat} {xs : List D} (e : s.env[i]? = some (some (.own (.lst xs)))) : ∃ a vs, σ[i]? = some (some (.ref a)) ∧ H a = some (.lst vs) ∧ Reps K Φ.cc F xs vs := by
  obtain ⟨v, e1, a, o, rfl, h0, hf, hh, vs, rfl, r⟩ := R.env i _ e
  exact ⟨a, vs, e1, hh, r⟩
theorem ds_app {i : Nat} {x : Str} {e : Expr} {f : DS → Rs D} {p apos cpos : Pos} (hv1 : X.N[i]? = some x) (hv2 : Vis X.env.scope x) (hv3 : (x == ("__debug__" : Str)) = false) (hv4 : (x == ("__classdict__" : Str)) = false) (hst : starEach [e] X.env = [(false, eval e X.env)])
    (hline : (apos.endLine == cpos.line) = true) (he : DE X Φ W e f) :
    DSt X Φ W (.Expr (.Call (.Attribute (.Name x p) "append" apos) [e] [] cpos) pos) (appS i f) :=
  PS.imp (ps_expr (pe_bm PySem.F.plainAttrs_list PySem.F.slot_list_append PySem.F.type_list_append mt_append (pe_var hv1 hv2 hv3 hv4) (pa_cons he pa_nil hst) rfl (by rw [hst]; rfl) hline hst rfl) rfl) fun E σ H ⟨F, s, R, h⟩ => by
    unfold appS at h
    split at h
    case h_1 xs0 e0 =>
      obtain ⟨a, vs, e1, h1, r1⟩ := own_lst R e0
      refine ⟨_, e1, .inl ⟨rfl, vs, .of h1⟩, F, s, R, (HoldS.then h).imp fun F1 H1 d s1 R1 st h2 v rv => ?_⟩
      split at h2
      case h_1 xs1 e2 =>
        obtain ⟨a', ws, e3, h3, r3⟩ := own_lst R1 e2
        rw [e1] at e3
        cases e3
        split at h2
        case isTrue hl =>
          refine ⟨a, ws, v, rfl, rfl, h3, by rw [r3.len, ← LN_eq]; exact hl, ?_⟩
          exact h2 F1 σ _ (Same.refl _) (R1.chg e2 e1 ⟨_, rfl, r3.app (reps_one rv)⟩)
        · exact h2.elim
      · exact h2.elim
    · exact h.elim
end

/-! ### statements of the middle language -/
inductive Ia where | add | sub deriving DecidableEq
def Ia.op : Ia → Operator | .add => .Add | .sub => .Sub
def Ia.f : Ia → D → D → Option D | .add => iaddD | .sub => subD
inductive Sx where
  | ret (a : Ex) | retN | asg (i : Nat) (a : Ex) | own (i : Nat) (a : Ex) | expr (a : Ex)
  | ite (t : Ex) (b c : Sx) | whl (fuel : Nat) (t : Ex) (b : Sx) | for_ (tg : Tg) (it : Ex) (b : Sx)
  | brk | cnt | pass | raise0 (x : Str) | never | aug (i : Nat) (o : Ia) (a : Ex) | app (i : Nat) (a : Ex)
  | par (i j : Nat) (a b : Ex) | unp (tg : Tg) (a : Ex) | lcA (o : Bool) (i : Nat) (a : Ex)
  | sx (o : So) (a b es : Ex)
  | nil | cons (a r : Sx)
mutual
def evS (Γ : Gam) : Sx → DS → Rst
  | .ret a => retS (evE Γ a)
  | .retN => retN
  | .asg i a => asgS i (evE Γ a)
  | .own i a => asgN i (evE Γ a)
  | .expr a => exprS (evE Γ a)
  | .ite t b c => ifS (evT Γ t) (evB Γ b) (evB Γ c)
  | .whl fuel t b => whileL (evT Γ t) (evB Γ b) fuel
  | .for_ tg it b => forS (evI Γ it) tg.t (evB Γ b)
  | .brk => bkS
  | .cnt => ctS
  | .pass => doneS
  | .raise0 x => raiseS x
  | .aug i o a => augS i o.f (evE Γ a)
  | .app i a => appS i (evE Γ a)
  | .par i j a b => parS i j (evA Γ (.cons a (.cons b .nil)))
  | .unp tg a => unpS tg.t (evE Γ a)
  | .lcA o i a => (if o = true then asgN else asgS) i (evE Γ a)
  | .sx o a b es => o.ev Γ (evE Γ a) (evE Γ b) (evA Γ es)
  | _ => fun _ => .bad
def evB (Γ : Gam) : Sx → DS → Rst
  | .nil => doneS
  | .cons a r => seqS (evS Γ a) (evB Γ r)
  | _ => fun _ => .bad
end
/-- no comprehension by itself (its value goes to a name without a list being seen) -/
def notComp : Expr → Bool
  | .ListComp _ _ _ _ => false
  | .SetComp _ _ _ _ => false
  | .DictComp _ _ _ _ _ => false
  | _ => true
theorem not_comp {e : Expr} (h : notComp e = true) (t : Option Expr) (l : Nat) (env : Env) : swapsWith e t l env = pure false := by
  cases e <;> first | rfl | cases h
def callName0 : Expr → Option Str
  | .Call (.Name y _) [] [] _ => some y
  | _ => none
theorem callName0_of {v : Expr} {x : Str} (h : callName0 v = some x) : ∃ p pos, v = .Call (.Name x p) [] [] pos := by
  unfold callName0 at h
  split at h
  · cases h; exact ⟨_, _, rfl⟩
  · cases h
def chPar (tb : Tb) (se : SE) (i j : Nat) (a b : Ex) (ts : List Expr) (e : Expr) : Bool := match ts, e with
  | [.Tuple [.Name x px, .Name y py] _ _], .Tuple [e1, e2] _ _ => decide (se.N[i]? = some x) && decide (se.N[j]? = some y) && decide (i ≠ j) && decide (se.kind x = some .local) && decide (se.kind y = some .local) && decide (se.sc.kind = .function) && (py.line == px.line) && notStar e1 && notStar e2 &&
      !([e1, e2].all (foldedForSure 8)) && !([e1, e2].all (constantsAlone 8)) && chA tb se false (.cons a (.cons b .nil)) [e1, e2]
  | _, _ => false
def chUnp (tb : Tb) (se : SE) (tg : Tg) (a : Ex) (ts : List Expr) (e : Expr) : Bool := match ts with
  | [.Tuple ts k p] => tg.chk se (.Tuple ts k p) && decide (se.sc.kind = .function) && swapNo se.sc ts e && notComp e && chE tb se a e .e
  | _ => false
def isLc : Ex → Bool
  | .lc _ _ _ _ _ => true
  | .lc2 _ _ _ _ _ _ _ _ => true
  | _ => false
/-- name = [..] on one line -/
def chLc (tb : Tb) (se : SE) (i : Nat) (a : Ex) (ts : List Expr) (e : Expr) : Bool := match ts, e with
  | [.Name x px], .ListComp e0 gs scope pos => decide (se.N[i]? = some x) && decide (se.kind x = some .local) && decide (se.sc.kind = .function) && (px.line == pos.line) && !(scope.names.any fun (n, k) => n == x && (k == .local || k == .cell)) && isLc a && chE tb se a (.ListComp e0 gs scope pos) .n
  | _, _ => false
section
variable {tb : Tb} {Γ : Gam} {Φ : Fx} {k : Nat} {X : Cx} {W : WX} {se : SE} {pos : Pos}
theorem par_ok (G : Good tb Γ Φ k X W se) {i j : Nat} {a b : Ex} {ts : List Expr} {e : Expr} (h : chPar tb se i j a b ts e = true) : DSt X Φ W (.Assign ts e pos) (parS i j (evA Γ (.cons a (.cons b .nil)))) := by
  unfold chPar at h
  split at h
  case h_2 => cases h
  case h_1 x px y py k1 p1 e1 e2 k2 p2 =>
    simp only [Bool.and_eq_true, decide_eq_true_eq, Bool.not_eq_true'] at h
    obtain ⟨⟨⟨⟨⟨⟨⟨⟨⟨⟨⟨h1, h2⟩, h3⟩, h4⟩, h5⟩, h6⟩, h7⟩, h8⟩, h9⟩, h10⟩, h11⟩, h12⟩ := h
    have hk : X.env.scope.kind = .function := by rw [G.sc]; exact h6
    have hx : X.env.scope.names.lookup x = some .local := by rw [G.sc]; exact h4
    have hy : X.env.scope.names.lookup y = some .local := by rw [G.sc]; exact h5
    have hxy : x ≠ y := fun e => h3 (by
      subst e
      have l1 := (List.getElem?_eq_some_iff.mp h1).1
      exact (List.getElem?_inj l1 G.nd).mp (h1.trans h2.symm))
    exact ds_par G.calm (by rw [G.hN]; exact G.nd) (by rw [G.hN]; exact h1) (by rw [G.hN]; exact h2) h3 hx hy (sA (.cons a (.cons b .nil)) [e1, e2] X W se G h12) (sst_two hk hx hy hxy h7 h8 h9 h10 h11)
theorem unp_ok (G : Good tb Γ Φ k X W se) {tg : Tg} {a : Ex} {ts : List Expr} {e : Expr} (h : chUnp tb se tg a ts e = true) : DSt X Φ W (.Assign ts e pos) (unpS tg.t (evE Γ a)) := by
  unfold chUnp at h
  split at h
  case h_2 => cases h
  case h_1 us k1 p1 =>
    simp only [Bool.and_eq_true, decide_eq_true_eq] at h
    obtain ⟨⟨⟨⟨h1, h2⟩, h3⟩, h4⟩, h5⟩ := h
    have hk : X.env.scope.kind = .function := by rw [G.sc]; exact h2
    exact ds_unp (sE a e .e X W se G h5) (tg_ok G tg _ h1) (not_comp h4 (some (.Tuple us k1 p1)) pos.line X.env) (sst_no G.sc hk h3) rfl
theorem lcA_ok (G : Good tb Γ Φ k X W se) {o : Bool} {i : Nat} {a : Ex} {ts : List Expr} {e : Expr} (h : chLc tb se i a ts e = true) : DSt X Φ W (.Assign ts e pos) ((if o = true then asgN else asgS) i (evE Γ a)) := by
  unfold chLc at h
  split at h
  case h_2 => cases h
  case h_1 x px e0 gs scope p1 =>
    simp only [Bool.and_eq_true, decide_eq_true_eq, Bool.not_eq_true'] at h
    obtain ⟨⟨⟨⟨⟨⟨h1, h2⟩, h3⟩, h4⟩, h5⟩, hlc⟩, h6⟩ := h
    have hk : X.env.scope.kind = .function := by rw [G.sc]; exact h3
    have hx : X.env.scope.names.lookup x = some .local := by rw [G.sc]; exact h2
    cases a with
    | lc own tg it c elt => match gs, h5, h6 with
      | [⟨t, i', ifs, a⟩], h5, h =>
        simp only [chE, Bool.and_eq_true, decide_eq_true_eq] at h
        obtain ⟨⟨⟨⟨⟨⟨⟨h0, h1'⟩, h2'⟩, h3'⟩, h4'⟩, h5'⟩, h6'⟩, h7'⟩ := h
        subst h0
        exact ds_setLc G.calm (by rw [G.hN]; exact G.nd) (by rw [G.hN]; exact h1) hx (sw_true hk hx h4 h5) (fun v hv => by
            rw [List.all_eq_true] at h3'
            exact of_decide_eq_true (h3' v hv)) (sI it _ t i' isTup_of X W se G h4') (by rw [G.hN, G.sc]; exact blkOk_by h2') (fun s H C cl fp => tg_ok (blk_good G s H scope cl C fp) tg t h5') (fun s H C cl fp => sTs c ifs _ _ _ (blk_good G s H scope cl C fp) h6')
          (fun s H C cl fp => sE elt e0 .e _ _ _ (blk_good G s H scope cl C fp) h7') (not_set h1' X.env)
      | [], _, h => simp [chE] at h
      | _ :: _ :: _, _, h => simp [chE] at h
    | lc2 own tg it c tg1 it1 c1 elt => match gs, h5, h6 with
      | [⟨t, i', ifs, a⟩, ⟨t1, i1, ifs1, a1⟩], h5, h =>
        simp only [chE, Bool.and_eq_true, decide_eq_true_eq] at h
        obtain ⟨⟨⟨⟨⟨⟨⟨⟨⟨⟨⟨⟨⟨z0, z0'⟩, z1⟩, z1'⟩, z2⟩, z3⟩, z3'⟩, z4⟩, z5⟩, z6⟩, z7⟩, z8⟩, z9⟩, z10⟩ := h
        subst z0 z0'
        rw [List.all_eq_true] at z3 z3'
        exact ds_setLc2 G.calm (by rw [G.hN]; exact G.nd) (by rw [G.hN]; exact h1) hx (sw_true hk hx h4 h5) (fun v hv => of_decide_eq_true (z3 v hv)) (fun v hv => of_decide_eq_true (z3' v hv)) (sI it _ t i' isTup_of X W se G z4) (by rw [G.hN, G.sc]; exact blkOk_by z2) (fun s H C cl fp => tg_ok (blk_good G s H scope cl C fp) tg t z5) (fun s H C cl fp => sTs c ifs _ _ _ (blk_good G s H scope cl C fp) z6)
          (fun s H C cl fp => sI it1 _ t1 i1 isTup_of _ _ _ (blk_good G s H scope cl C fp) z7) (fun s H C cl fp => tg_ok (blk_good G s H scope cl C fp) tg1 t1 z8) (fun s H C cl fp => sTs c1 ifs1 _ _ _ (blk_good G s H scope cl C fp) z9)
          (fun s H C cl fp => sE elt e0 .e _ _ _ (blk_good G s H scope cl C fp) z10) (not_set z1 X.env) (fun env x => not_set z1' env x)
      | [], _, h => simp [chE] at h
      | [_], _, h => simp [chE] at h
      | _ :: _ :: _ :: _, _, h => simp [chE] at h
    | ext _ _ _ => cases hlc
    | _ => simp [chE] at h6
end
mutual
def chS (tb : Tb) (ex : List Str) (se : SE) : Sx → Stmt → Bool
  | .ret a, .Return (some e) _ => chE tb se a e .e
  | .retN, .Return none _ => true
  | .asg i a, .Assign [.Name x _] e _ => se.loc i x && notComp e && chE tb se a e .e
  | .own i a, .Assign [.Name x _] e _ => se.loc i x && notComp e && chE tb se a e .n
  | .expr a, .Expr e _ => notComp e && chE tb se a e .e
  | .ite t b c, .If e s1 s2 _ => chT tb se t e && chB tb ex se b s1 && chB tb ex se c s2
  | .whl _ t b, .While e s1 [] _ => chT tb se t e && chB tb ex se b s1
  | .for_ tg it b, .For t i s1 [] _ => notSetE i && tg.chk se t && chI tb se (isTupE t) it i && chB tb ex se b s1
  | .brk, .Break _ => true
  | .cnt, .Continue _ => true
  | .pass, .Pass _ => true
  | .raise0 x, .Raise (some v) none _ => decide (callName0 v = some x) && se.gl x && decide (x ∈ ex)
  | .never, _ => true
  | .aug i o a, .AugAssign (.Name x _) p e _ => se.loc i x && decide (p = o.op) && chE tb se a e .b
  | .app i a, .Expr (.Call (.Attribute (.Name x _) m apos) [e] [] cpos) _ => se.vis i x && decide (m = ("append" : Str)) && notStar e && (apos.endLine == cpos.line) && chE tb se a e .e
  | .par i j a b, .Assign ts e _ => chPar tb se i j a b ts e
  | .unp tg a, .Assign ts e _ => chUnp tb se tg a ts e
  | .lcA _ i a, .Assign ts e _ => chLc tb se i a ts e
  | .sx o a b es, st => (match o.parse tb se st with
    | some q => chE tb se a q.e q.m && chE tb se b q.e2 q.m2 && chA tb se q.b es q.es
    | none => false)
  | _, _ => false
def chB (tb : Tb) (ex : List Str) (se : SE) : Sx → List Stmt → Bool
  | .nil, [] => true
  | .cons a r, s :: ss => chS tb ex se a s && chB tb ex se r ss
  | _, _ => false
end
/-- what statements ask besides -/
structure GoodB (tb : Tb) (ex : List Str) (Γ : Gam) (Φ : Fx) (k : Nat) (X : Cx) (W : WX) (se : SE) : Prop where
  g : Good tb Γ Φ k X W se
  hp : PassesOwn (model X.prog X.w) X.A X.env X.xe
  er : ∀ x, x ∈ ex → ∃ C, X.mg x = some (.ref C) ∧ ErrC X.K C
section
variable {tb : Tb} {ex : List Str} {Γ : Gam} {Φ : Fx} {k : Nat} {X : Cx} {W : WX} {se : SE}
theorem ia_ok {o : Ia} : OpD X Φ (inplaceOp o.op) o.f := by
  cases o
  · exact iop_addD
  · exact iop_subD
mutual
theorem sS (B : GoodB tb ex Γ Φ k X W se) : ∀ (x : Sx) (e : Stmt), chS tb ex se x e = true → DSt X Φ W e (evS Γ x)
  | .ret a, e, h => by
    cases e with
    | Return v p => cases v with
      | some e => simp only [chS] at h; exact ds_ret (sE a e .e X W se B.g h)
      | none => simp [chS] at h
    | _ => simp [chS] at h
  | .retN, e, h => by
    cases e with
    | Return v p => cases v with
      | some e => simp [chS] at h
      | none => exact ds_retN
    | _ => simp [chS] at h
  | .asg i a, e, h => by
    cases e with
    | Assign ts e p => match ts, h with
      | [t], h => cases t with
        | Name x p2 =>
          simp only [chS, Bool.and_eq_true] at h
          obtain ⟨⟨h1, h2⟩, h3⟩ := h
          obtain ⟨l1, l2, l3⟩ := loc_of B.g h1
          exact ds_asg (by rw [B.g.hN]; exact B.g.nd) l1 l2 (not_comp h2 _ _ _) l3 (sE a e .e X W se B.g h3)
        | _ => simp [chS] at h
      | [], h => simp [chS] at h
      | t0 :: _ :: _, h => cases t0 <;> exact Bool.noConfusion (show false = true from h)
    | _ => simp [chS] at h
  | .own i a, e, h => by
    cases e with
    | Assign ts e p => match ts, h with
      | [t], h => cases t with
        | Name x p2 =>
          simp only [chS, Bool.and_eq_true] at h
          obtain ⟨⟨h1, h2⟩, h3⟩ := h
          obtain ⟨l1, l2, l3⟩ := loc_of B.g h1
          exact ds_own (by rw [B.g.hN]; exact B.g.nd) l1 l2 (not_comp h2 _ _ _) l3 (sE a e .n X W se B.g h3)
        | _ => simp [chS] at h
      | [], h => simp [chS] at h
      | t0 :: _ :: _, h => cases t0 <;> exact Bool.noConfusion (show false = true from h)
    | _ => simp [chS] at h
  | .expr a, e, h => by
    cases e with
    | Expr e p =>
      simp only [chS, Bool.and_eq_true] at h
      exact ds_expr (sE a e .e X W se B.g h.2) (not_comp h.1 _ _ _)
    | _ => simp [chS] at h
  | .ite t b c, e, h => by
    cases e with
    | If e s1 s2 p =>
      simp only [chS, Bool.and_eq_true] at h
      exact ds_if (sT t e X W se B.g h.1.1) (sB B b s1 h.1.2) (sB B c s2 h.2)
    | _ => simp [chS] at h
  | .whl fuel t b, e, h => by
    cases e with
    | While e s1 s2 p => cases s2 with
      | nil =>
        simp only [chS, Bool.and_eq_true] at h
        exact ds_while fuel B.hp (sT t e X W se B.g h.1) (sB B b s1 h.2)
      | cons _ _ => simp [chS] at h
    | _ => simp [chS] at h
  | .for_ tg it b, e, h => by
    cases e with
    | For t i s1 s2 p => cases s2 with
      | nil =>
        simp only [chS, Bool.and_eq_true] at h
        exact ds_for B.hp B.g.calm (sI it _ t i isTup_of X W se B.g h.1.2) (tg_ok B.g tg t h.1.1.2) (sB B b s1 h.2) (not_set h.1.1.1 X.env)
      | cons _ _ => simp [chS] at h
    | _ => simp [chS] at h
  | .brk, e, h => by
    cases e with
    | Break p => exact ds_break
    | _ => simp [chS] at h
  | .cnt, e, h => by
    cases e with
    | Continue p => exact ds_continue
    | _ => simp [chS] at h
  | .pass, e, h => by
    cases e with
    | Pass p => exact ds_pass
    | _ => simp [chS] at h
  | .raise0 x, e, h => by
    cases e with
    | Raise v c p => cases v with
      | some v => cases c with
        | none =>
          simp only [chS, Bool.and_eq_true, decide_eq_true_eq] at h
          obtain ⟨⟨h1, h2⟩, h3⟩ := h
          obtain ⟨p1, p2, rfl⟩ := callName0_of h1
          obtain ⟨g1, g2, g3⟩ := gl_of B.g h2
          obtain ⟨C, gC, c⟩ := B.er _ h3
          exact ds_raise0' B.g.calm B.g.tk c gC g1 g2
        | some _ => simp [chS] at h
      | none => simp [chS] at h
    | _ => simp [chS] at h
  | .never, e, h => ds_never
  | .aug i o a, e, h => by
    cases e with
    | AugAssign t p e pos => cases t with
      | Name x p2 =>
        simp only [chS, Bool.and_eq_true, decide_eq_true_eq] at h
        obtain ⟨⟨h1, h2⟩, h3⟩ := h
        subst h2
        obtain ⟨l1, l2, l3⟩ := loc_of B.g h1
        exact ds_aug (by rw [B.g.hN]; exact B.g.nd) l1 l2 l3 ia_ok (sE a e .b X W se B.g h3)
      | _ => simp [chS] at h
    | _ => simp [chS] at h
  | .app i a, e, h => by
    cases e with
    | Expr e p => cases e with
      | Call f as ks cpos => cases f with
        | Attribute v m apos => cases v with
          | Name x p3 => match as, ks, h with
            | [e], [], h =>
              simp only [chS, Bool.and_eq_true, decide_eq_true_eq] at h
              obtain ⟨⟨⟨⟨h1, h2⟩, h3⟩, h4⟩, h5⟩ := h
              subst h2
              obtain ⟨v1, v2, v3, v4⟩ := vis_of B.g h1
              exact ds_app v1 v2 v3 v4 (star_cons h3 _ _) h4 (sE a e .e X W se B.g h5)
            | [], _, h => simp [chS] at h
            | _ :: _ :: _, _, h => simp [chS] at h
            | [_], _ :: _, h => simp [chS] at h
          | _ => simp [chS] at h
        | _ => simp [chS] at h
      | _ => simp [chS] at h
    | _ => simp [chS] at h
  | .par i j a b, e, h => by
    cases e with
    | Assign ts e p => exact par_ok B.g h
    | _ => simp [chS] at h
  | .unp tg a, e, h => by
    cases e with
    | Assign ts e p => exact unp_ok B.g h
    | _ => simp [chS] at h
  | .lcA o i a, e, h => by
    cases e with
    | Assign ts e p => exact lcA_ok B.g h
    | _ => simp [chS] at h
  | .nil, e, h => by cases e <;> simp [chS] at h
  | .cons _ _, e, h => by cases e <;> simp [chS] at h
  | .sx o a b es, e, h => by
    simp only [chS] at h
    split at h
    case h_2 => cases h
    case h_1 q hq =>
      simp only [Bool.and_eq_true] at h
      have hb : if q.b = true then DAb X Φ W q.es (evA Γ es) else DA X Φ W q.es (evA Γ es) := by
        cases hq2 : q.b with
        | true => rw [hq2] at h; exact sAb es _ X W se B.g h.2
        | false => rw [hq2] at h; exact sA es _ X W se B.g h.2
      exact sx_ok B.g o e q hq (sE a q.e q.m X W se B.g h.1.1) (sE b q.e2 q.m2 X W se B.g h.1.2) hb
theorem sB (B : GoodB tb ex Γ Φ k X W se) : ∀ (x : Sx) (es : List Stmt), chB tb ex se x es = true → DSs X Φ W es (evB Γ x)
  | .nil, es, h => by
    cases es with
    | nil => exact ds_nil
    | cons _ _ => simp [chB] at h
  | .cons a r, es, h => by
    cases es with
    | nil => simp [chB] at h
    | cons e es =>
      simp only [chB, Bool.and_eq_true] at h
      exact ds_cons (sS B a e h.1) (sB B r es h.2)
  | .ret _, es, h => by simp [chB] at h
  | .retN, es, h => by simp [chB] at h
  | .asg _ _, es, h => by simp [chB] at h
  | .own _ _, es, h => by simp [chB] at h
  | .expr _, es, h => by simp [chB] at h
  | .ite _ _ _, es, h => by simp [chB] at h
  | .whl _ _ _, es, h => by simp [chB] at h
  | .for_ _ _ _, es, h => by simp [chB] at h
  | .brk, es, h => by simp [chB] at h
  | .cnt, es, h => by simp [chB] at h
  | .pass, es, h => by simp [chB] at h
  | .raise0 _, es, h => by simp [chB] at h
  | .never, es, h => by simp [chB] at h
  | .aug _ _ _, es, h => by simp [chB] at h
  | .app _ _, es, h => by simp [chB] at h
  | .par _ _ _ _, es, h => by simp [chB] at h
  | .unp _ _, es, h => by simp [chB] at h
  | .lcA _ _ _, es, h => by simp [chB] at h
  | .sx _ _ _ _, es, h => by simp [chB] at h
end
end
end Cut
namespace Cut
open PySem PySem.Spec L2
open PyProof.Rows hiding St

/-- what a def of the text may lean on -/
structure Facts (P : Program) (w : World) (K : PySem.W.Frag) (mg : Str → Option Value) (base : Heap) (cc : Addr) (k : Nat) (tb : Tb) (ex : List Str) (Γ : Gam) : Prop where
  gi : ∀ (j : Nat) x i, tb.gi[j]? = some (x, i) → ∃ u, mg x = some u ∧ RelV (.int i) u
  gs : ∀ (j : Nat) x w, tb.gs[j]? = some (x, w) → ∃ u, mg x = some u ∧ RelV (.str (S w)) u
  pf : ∀ (j : Nat) x n, tb.pfs[j]? = some (x, n) → GoodP P w K mg base cc k x (Γ.pf j).1 (Γ.pf j).2
  sf : ∀ (j : Nat) x n, tb.sfs[j]? = some (x, n) → GoodS P w K mg base cc k x (Γ.sf j).1 (Γ.sf j).2
  bl : ∀ x, x ∈ tb.blts → mg x = none
  er : ∀ x, x ∈ ex → ∃ C, mg x = some (.ref C) ∧ ErrC K C
  cd : tb.cod = true → CodC K cc
  mks : ∀ (j : Nat) x n, tb.mks[j]? = some (x, n) → ∃ k', k' + 1 ≤ k ∧ GoodM P w K mg base cc k' x (Γ.mf j).1 (Γ.mf j).2
  pr : ∀ x f, (x, f) ∈ tb.props → ∃ k', k' + 1 ≤ k ∧ GoodPr P w K mg base cc k' x f

def envP (N : List Str) (ds : List D) : List (Option DV) := ds.map (fun d => some (.im d)) ++ List.replicate (N.length - ds.length) none
def semP (N : List Str) (n : Nat) (g : DS → Rst) : PF := fun ds => if ds.length = n then (match g ⟨envP N ds, ⟨0, [], 0⟩⟩ with
  | .rt d _ => .ok d
  | .nx _ => .ok .non
  | .exc x _ => .exc x
  | _ => .bad) else .bad
def envS (N : List Str) (ds : List D) : List (Option DV) := some .src :: (ds.map (fun d => some (.im d)) ++ List.replicate (N.length - ds.length - 1) none)
def semS (N : List Str) (n : Nat) (g : DS → Rst) : SF := fun ds sr => if ds.length = n then (match g ⟨envS N ds, sr⟩ with
  | .rt d s => .ok d s.src
  | .nx s => .ok .non s.src
  | .exc x s => .exc x s.src
  | _ => .bad) else .bad
section
variable {P : Program} {w : World} {K : PySem.W.Frag} {mg : Str → Option Value} {base : Heap} {cc : Addr} {k : Nat} {tb : Tb} {ex : List Str} {Γ : Gam}
theorem goodB_of (Ft : Facts P w K mg base cc k tb ex Γ) {N ps : List Str} {qual : Str} {scope : Scope} {f : Addr} {cdv : Value} {A : Around} {outer : List Env} {s : Shared} {H : Hp} {E : XK} {Φ : Fx} (hcc : Φ.cc = cc) (Sc : FnScope N ps scope) (hr : Room k (A.deeper (envOfC qual scope s.heap.objs.size f cdv))) :
    GoodB tb ex Γ Φ k (cxOf (L2.CX P w) P w K mg base N qual scope f cdv A outer s H E) (fun cls d _ H => E cls d H) ⟨N, scope, none⟩ := by
  subst hcc
  exact ⟨⟨rfl, rfl, Sc.nd, rfl, hr, takes_of rfl rfl rfl rfl, fun _ => rfl, Ft.gi, Ft.gs, Ft.pf, Ft.sf, Ft.bl, Ft.cd, Ft.mks, Ft.pr⟩, passes_of rfl, Ft.er⟩
theorem envP_get {N : List Str} {ds : List D} {vs : List V} {F H : Hp} {Φ : Fx} (r : Reps K Φ.cc F ds vs) (hl : ds.length ≤ N.length) (i : Nat) (dv : DV) (e : (envP N ds)[i]? = some (some dv)) : ∃ v, (L2.start N vs)[i]? = some (some v) ∧ VRel K Φ F H dv v := by
  unfold envP at e
  by_cases hi : i < ds.length
  · rw [List.getElem?_append_left (by simpa using hi), List.getElem?_map, List.getElem?_eq_getElem hi] at e
    cases e
    obtain ⟨v, e1, h1⟩ := r.get (List.getElem?_eq_getElem hi)
    refine ⟨v, ?_, h1⟩
    unfold L2.start
    rw [List.getElem?_append_left (by rw [List.length_map, r.len]; exact hi), List.getElem?_map, e1]; rfl
  · rw [List.getElem?_append_right (by simpa using hi), List.getElem?_replicate] at e
    split at e <;> cases e
theorem fn_pure {x qual : Str} {st : Stmt} {f : Addr} {fd : FuncData} {N ps : List Str} {n : Nat} (il : Sx) (F : Fun K x qual st f fd) (Sc : FnScope N ps (defScope st)) (hn : ps.length = n) (hN : n ≤ N.length) (hc : chB tb ex ⟨N, defScope st, none⟩ il (defBody st) = true) (Ft : Facts P w K mg base cc k tb ex Γ) :
    FnOk P w K mg base (L2.CX P w) (k + 1) f fd ps (spP mg K cc (semP N n (evB Γ il)) n) := by
  refine F.okX Sc (fun vs H Q E h => ?_) (fun cdv A outer s H vs Q E hr h => ?_)
  · obtain ⟨F, ds, _, r, hl, _⟩ := h
    rw [r.len, hl, hn]
  · obtain ⟨F0, ds, sm, r, hl, q⟩ := h
    let Φ : Fx := ⟨cc, F0, H, false, 0, 0⟩
    refine ⟨_, sB (Φ := Φ) (goodB_of (Φ := Φ) Ft rfl Sc hr) il _ hc, ?_⟩
    have gr : ∀ {F' H' : Hp} {σ' : St} {s' : DS}, Rel K Φ F' σ' H' s' → Gr F0 H F' H' := fun R => ⟨R.f0, fun a o e => R.keep a o (fun z => Bool.noConfusion z) e, R.fh, R.new⟩
    refine ⟨F0, ⟨envP N ds, ⟨0, [], 0⟩⟩, ⟨Same.refl _, sm, fun a o e => .inl e, fun a o _ e => e, fun z => Bool.noConfusion z, fun z => Bool.noConfusion z, ?_, fun i dv e => envP_get (Φ := Φ) r (by omega) i dv e, fun i j d d' a _ e => ?_⟩, ?_⟩
    · show (L2.start N vs).length = (envP N ds).length
      unfold L2.start envP
      simp [r.len]
    · have e : (envP N ds)[i]? = some (some (.own d)) := e
      unfold envP at e
      by_cases hi : i < ds.length
      · rw [List.getElem?_append_left (by simpa using hi), List.getElem?_map, List.getElem?_eq_getElem hi] at e
        cases e
      · rw [List.getElem?_append_right (by simpa using hi), List.getElem?_replicate] at e
        split at e <;> cases e
    · unfold semP at q
      rw [if_pos hl] at q
      cases z : evB Γ il ⟨envP N ds, ⟨0, [], 0⟩⟩ with
      | rt d s' => rw [z] at q; exact fun F' σ' H' v _ R rv => q F' H' v (gr R) rv
      | nx s' => rw [z] at q; exact fun F' σ' H' _ R => q F' H' .non (gr R) rep_non
      | exc x s' => rw [z] at q; exact fun F' σ' H' cls od _ R xr => q F' H' cls od (gr R) xr
      | bk s' => rw [z] at q; exact q.elim
      | ct s' => rw [z] at q; exact q.elim
      | bad => rw [z] at q; exact q.elim
theorem fn_src {x qual : Str} {st : Stmt} {f : Addr} {fd : FuncData} {N ps : List Str} {n : Nat} (il : Sx) (F : Fun K x qual st f fd) (Sc : FnScope N ps (defScope st)) (hn : ps.length = n + 1) (hN : n + 1 ≤ N.length) (hc : chB tb ex ⟨N, defScope st, none⟩ il (defBody st) = true) (Ft : Facts P w K mg base cc k tb ex Γ) :
    FnOk P w K mg base (L2.CX P w) (k + 1) f fd ps (spS mg K cc (semS N n (evB Γ il)) n) := by
  refine F.okX Sc (fun vs H Q E h => ?_) (fun cdv A outer s H vs Q E hr h => ?_)
  · obtain ⟨F, ds, a, b, sr, us, rfl, _, _, _, _, r, hl, _⟩ := h
    rw [List.length_cons, r.len, hl, hn]
  · obtain ⟨F0, ds, a, b, sr, us, rfl, sm, fa, fb, sx, r, hl, q⟩ := h
    let Φ : Fx := ⟨cc, F0, H, true, a, b⟩
    refine ⟨_, sB (Φ := Φ) (goodB_of (Φ := Φ) Ft rfl Sc hr) il _ hc, ?_⟩
    have gr : ∀ {F' H' : Hp} {σ' : St} {s' : DS}, Rel K Φ F' σ' H' s' → GrS a b F0 H F' H' ∧ SrcAt H' a b s'.src := fun R => ⟨⟨R.f0, fun c o n1 n2 e => R.keep c o (fun _ => ⟨n1, n2⟩) e, R.fh, R.new⟩, R.srcH rfl⟩
    have est : L2.start N (.ref a :: us) = some (.ref a) :: (us.map some ++ List.replicate (N.length - ds.length - 1) none) := by
      unfold L2.start
      rw [List.map_cons, List.cons_append, List.length_cons, r.len]
      rw [Nat.sub_sub]
    have envc : ∀ (i : Nat) (dv : DV), (envS N ds)[i]? = some (some dv) → (i = 0 ∧ dv = .src) ∨ ∃ j d, i = j + 1 ∧ ds[j]? = some d ∧ dv = .im d := fun i dv e => by
      unfold envS at e
      cases i with
      | zero => cases e; exact .inl ⟨rfl, rfl⟩
      | succ i =>
        rw [List.getElem?_cons_succ] at e
        by_cases hi : i < ds.length
        · rw [List.getElem?_append_left (by simpa using hi), List.getElem?_map, List.getElem?_eq_getElem hi] at e
          cases e
          exact .inr ⟨i, _, rfl, List.getElem?_eq_getElem hi, rfl⟩
        · rw [List.getElem?_append_right (by simpa using hi), List.getElem?_replicate] at e
          split at e <;> cases e
    refine ⟨F0, ⟨envS N ds, sr⟩, ⟨Same.refl _, sm, fun a o e => .inl e, fun a o _ e => e, fun _ => sx, fun _ => ⟨fa, fb, by rw [show Φ.H0 Φ.sa = H a from rfl, sx.2.1]; simp, by rw [show Φ.H0 Φ.sb = H b from rfl, sx.2.2]; simp⟩, ?_, fun i dv e => ?_, fun i j d d' c _ e => ?_⟩, ?_⟩
    · rw [est]
      show _ = (envS N ds).length
      unfold envS
      simp [r.len]
    · rw [est]
      rcases envc i dv e with ⟨rfl, rfl⟩ | ⟨j, d, rfl, e1, rfl⟩
      · exact ⟨_, rfl, rfl, rfl⟩
      · obtain ⟨v, e2, h2⟩ := r.get e1
        refine ⟨v, ?_, h2⟩
        rw [List.getElem?_cons_succ, List.getElem?_append_left (by rw [List.length_map]; exact (List.getElem?_eq_some_iff.mp e2).1), List.getElem?_map, e2]; rfl
    · rcases envc i _ e with ⟨_, z⟩ | ⟨_, _, _, _, z⟩ <;> cases z
    · unfold semS at q
      rw [if_pos hl] at q
      cases z : evB Γ il ⟨envS N ds, sr⟩ with
      | rt d s' => rw [z] at q; exact fun F' σ' H' v _ R rv => q F' H' v (gr R).1 (gr R).2 rv
      | nx s' => rw [z] at q; exact fun F' σ' H' _ R => q F' H' .non (gr R).1 (gr R).2 rep_non
      | exc x s' => rw [z] at q; exact fun F' σ' H' cls od _ R xr => q F' H' cls od (gr R).1 (gr R).2 xr
      | bk s' => rw [z] at q; exact q.elim
      | ct s' => rw [z] at q; exact q.elim
      | bad => rw [z] at q; exact q.elim
end
end Cut
namespace Cut
open PySem PySem.Spec L2
open PyProof.Rows hiding St

/-! ### an __init__: statements, then the three fields stored -/
def envI (N : List Str) (ds : List D) : List (Option DV) := some .me :: (ds.map (fun d => some (.im d)) ++ List.replicate (N.length - ds.length - 1) none)
def codOf (s : DS) : Rf := match (s.env[0]? : Option (Option DV)), (s.env[1]? : Option (Option DV)), (s.env[2]? : Option (Option DV)), (s.env[3]? : Option (Option DV)) with
  | some (some .me), some (some (.im (.int l))), some (some (.im (.int m))), some (some (.im (.tup ws))) => (match strsOf ws with
    | some xs => .ok (.cod l m xs)
    | none => .bad)
  | _, _, _, _ => .bad
theorem codOf_cases (s : DS) : codOf s = .bad ∨ ∃ l m ws xs, (s.env[0]? : Option (Option DV)) = some (some .me) ∧ (s.env[1]? : Option (Option DV)) = some (some (.im (.int l))) ∧ (s.env[2]? : Option (Option DV)) = some (some (.im (.int m))) ∧ (s.env[3]? : Option (Option DV)) = some (some (.im (.tup ws))) ∧ strsOf ws = some xs ∧ codOf s = .ok (.cod l m xs) := by
  unfold codOf
  split
  · rename_i l m ws e0 e1 e2 e3
    split
    · rename_i xs hx; exact .inr ⟨l, m, ws, xs, e0, e1, e2, e3, hx, rfl⟩
    · exact .inl rfl
  · exact .inl rfl
def semI (N : List Str) (g : DS → Rst) : PF := fun ds => if ds.length = 3 then (match g ⟨envI N ds, ⟨0, [], 0⟩⟩ with
  | .nx s => codOf s
  | .exc x _ => .exc x
  | _ => .bad) else .bad
/-- self.f = x -/
def chStore (N : List Str) (sc : Scope) (i : Nat) (f : Str) : Stmt → Bool
  | .Assign [.Attribute (.Name me _) g _] (.Name x _) _ => decide (g = f) && (SE.mk N sc none).vis 0 me && (SE.mk N sc none).vis i x
  | _ => false
section
variable {P : Program} {w : World} {K : PySem.W.Frag} {mg : Str → Option Value} {base : Heap} {cc : Addr} {k : Nat} {tb : Tb} {ex : List Str} {Γ : Gam} {Φ : Fx} {X : Cx} {W : WX} {se : SE}
theorem sBapp (B : GoodB tb ex Γ Φ k X W se) {rest : List Stmt} {t : TS} (hr : PSs X rest t) : ∀ (x : Sx) (es : List Stmt), chB tb ex se x es = true → PSs X (es ++ rest) (fun D σ H => ∃ F s, Rel X.K Φ F σ H s ∧ HoldS X.K X.mg Φ W F (evB Γ x s) { D with nx := t D })
  | .nil, es, h => by
    cases es with
    | nil => exact PSs.imp hr fun E σ H ⟨F, s, R, h⟩ => h F σ H (Same.refl _) R
    | cons _ _ => simp [chB] at h
  | .cons a r, es, h => by
    cases es with
    | nil => simp [chB] at h
    | cons e es =>
      simp only [chB, Bool.and_eq_true] at h
      refine PSs.imp (pss_cons (sS B a e h.1) (sBapp B hr r es h.2)) fun E σ H ⟨F, s, R, q⟩ => ⟨F, s, R, ?_⟩
      have q : HoldS X.K X.mg Φ W F (seqS (evS Γ a) (evB Γ r) s) { E with nx := t E } := q
      unfold seqS at q
      cases z : evS Γ a s with
      | nx s' =>
        rw [z] at q
        exact fun F' σ' H' sm R => ⟨F', s', R, HoldS.mono sm q⟩
      | rt d s' => rw [z] at q; exact q
      | bk s' => rw [z] at q; exact q
      | ct s' => rw [z] at q; exact q
      | exc x s' => rw [z] at q; exact q
      | bad => rw [z] at q; exact q
  | .ret _, es, h | .retN, es, h | .asg _ _, es, h | .own _ _, es, h | .expr _, es, h | .ite _ _ _, es, h | .whl _ _ _, es, h | .for_ _ _ _, es, h | .brk, es, h | .cnt, es, h | .pass, es, h | .raise0 _, es, h | .never, es, h | .aug _ _ _, es, h | .app _ _, es, h | .par _ _ _ _, es, h | .unp _ _, es, h | .lcA _ _ _, es, h | .sx _ _ _ _, es, h => by simp [chB] at h
theorem ps_store {i : Nat} {f : Str} {st : Stmt} (G : Good tb Γ Φ k X W se) (hb : se.blk = none) (h : chStore se.N se.sc i f st = true) :
    PS X st (fun D σ H => ∃ v x dx fs, σ[i]? = some (some v) ∧ σ[0]? = some (some (.ref x)) ∧ ∃ C, H x = some (.ins C dx fs) ∧ Cls X.K C ∧ NoAttr X.K C f ∧ fs.length < 1000 ∧ D.nx σ (upd H x (.ins C dx (putF f v fs)))) := by
  obtain ⟨N, sc, blk⟩ := se
  dsimp only at hb h
  subst hb
  unfold chStore at h
  split at h
  case h_2 => cases h
  case h_1 me p1 g p2 x p3 pos =>
    simp only [Bool.and_eq_true, decide_eq_true_eq] at h
    obtain ⟨⟨rfl, h1⟩, h2⟩ := h
    obtain ⟨a1, a2, a3, a4⟩ := vis_of G h1
    obtain ⟨b1, b2, b3, b4⟩ := vis_of G h2
    exact PS.imp (ps_fld (pe_var a1 a2 a3 a4) (pe_var b1 b2 b3 b4) rfl) fun D σ H ⟨v, x, dx, fs, e1, e2, C, e3, c, n, l, q⟩ => ⟨v, e1, .ref x, e2, x, C, dx, fs, rfl, e3, c, n, l, q⟩
theorem fn_init {x qual : Str} {st : Stmt} {f : Addr} {fd : FuncData} {N ps : List Str} {s1 s2 s3 : Stmt} {pre : List Stmt} (il : Sx) (F : Fun K x qual st f fd) (Sc : FnScope N ps (defScope st)) (hn : ps.length = 4) (hN : 4 ≤ N.length) (hbody : defBody st = pre ++ [s1, s2, s3]) (hc : chB tb ex ⟨N, defScope st, none⟩ il pre = true)
    (h1 : chStore N (defScope st) 1 "many" s1 = true) (h2 : chStore N (defScope st) 2 "size" s2 = true) (h3 : chStore N (defScope st) 3 "rows" s3 = true) (Ft : Facts P w K mg base cc k tb ex Γ) (C : CodC K cc) :
    FnOk P w K mg base (L2.CX P w) (k + 1) f fd ps (spI mg K cc (semI N (evB Γ il)) 3) := by
  refine F.okX Sc (fun vs H Q E h => ?_) (fun cdv A outer s H vs Q E hr h => ?_)
  · obtain ⟨F, ds, x, dx, us, rfl, _, _, _, r, hl, _⟩ := h
    show us.length + 1 = _
    rw [r.len, hl, hn]
  · obtain ⟨F0, ds, x, dx, us, rfl, sm, nx, hx, r, hl, q⟩ := h
    let Φ : Fx := ⟨cc, F0, H, false, 0, x⟩
    have B : GoodB tb ex Γ Φ k (cxOf (L2.CX P w) P w K mg base N qual (defScope st) f cdv A outer s H E) (fun cls d _ H => E cls d H) ⟨N, defScope st, none⟩ := goodB_of (Φ := Φ) Ft rfl Sc hr
    rw [hbody]
    refine ⟨_, sBapp B (pss_cons (ps_store B.g rfl h1) (pss_cons (ps_store B.g rfl h2) (pss_one (ps_store B.g rfl h3)))) il pre hc, ?_⟩
    have gr : ∀ {F' H' : Hp} {σ' : St} {s' : DS}, Rel K Φ F' σ' H' s' → Gr F0 H F' H' := fun R => ⟨R.f0, fun a o e => R.keep a o (fun z => Bool.noConfusion z) e, R.fh, R.new⟩
    have hlen : (L2.start N (V.ref x :: us)).length = (envI N ds).length := by
      unfold L2.start envI
      simp [r.len]
      omega
    have henv : ∀ (i : Nat) dv, (envI N ds)[i]? = some (some dv) → ∃ v, (L2.start N (V.ref x :: us))[i]? = some (some v) ∧ VRel K Φ F0 H dv v := fun i dv e => by
      cases i with
      | zero => cases e; exact ⟨.ref x, rfl, rfl, rfl⟩
      | succ i =>
        unfold envI at e
        rw [List.getElem?_cons_succ] at e
        by_cases hi : i < ds.length
        · rw [List.getElem?_append_left (by simpa using hi), List.getElem?_map, List.getElem?_eq_getElem hi] at e
          cases e
          obtain ⟨v, e1, h1⟩ := r.get (List.getElem?_eq_getElem hi)
          refine ⟨v, ?_, h1⟩
          unfold L2.start
          rw [List.map_cons, List.cons_append, List.getElem?_cons_succ, List.getElem?_append_left (by rw [List.length_map, r.len]; exact hi), List.getElem?_map, e1]; rfl
        · rw [List.getElem?_append_right (by simpa using hi), List.getElem?_replicate] at e
          split at e <;> cases e
    have hown : ∀ (i : Nat) d, (envI N ds)[i]? ≠ some (some (.own d)) := fun i d e => by
      cases i with
      | zero => cases e
      | succ i =>
        unfold envI at e
        rw [List.getElem?_cons_succ] at e
        by_cases hi : i < ds.length
        · rw [List.getElem?_append_left (by simpa using hi), List.getElem?_map, List.getElem?_eq_getElem hi] at e
          cases e
        · rw [List.getElem?_append_right (by simpa using hi), List.getElem?_replicate] at e
          split at e <;> cases e
    refine ⟨F0, ⟨envI N ds, ⟨0, [], 0⟩⟩, ⟨Same.refl _, sm, fun a o e => .inl e, fun a o _ e => e, fun z => Bool.noConfusion z, fun z => Bool.noConfusion z, hlen, henv, fun i j d d' a _ e => absurd e (hown i d)⟩, ?_⟩
    unfold semI at q
    rw [if_pos hl] at q
    cases z : evB Γ il ⟨envI N ds, ⟨0, [], 0⟩⟩ with
    | nx s' =>
      rw [z] at q
      dsimp only at q
      intro F' σ' H' _ R
      rcases codOf_cases s' with hb | ⟨l, m, ws, xs, e0, e1, e2, e3, hxs, hcod⟩
      · rw [hb] at q; exact q.elim
      · rw [hcod] at q
        dsimp only at q
        · skip
          obtain ⟨v0, g0, _, rfl⟩ := R.env 0 _ e0
          obtain ⟨v1, g1, r1⟩ := R.env 1 _ e1
          obtain ⟨v2, g2, r2⟩ := R.env 2 _ e2
          obtain ⟨v3, g3, r3⟩ := R.env 3 _ e3
          have hx' : H' x = some (.ins cc dx []) := R.keep x _ (fun z => Bool.noConfusion z) hx
          refine ⟨v1, x, dx, _, g1, g0, cc, hx', C.cl, C.nm, by decide, ?_⟩
          have pl : ∀ (f : Str) (v : V) (fs : List (Str × V)), (putF f v fs).length ≤ fs.length + 1 := fun f v fs => by
            induction fs with
            | nil => exact Nat.le_refl _
            | cons y r ih =>
              obtain ⟨g, x⟩ := y
              unfold putF
              split
              · simp
              · simp; omega
          have p1 := pl "many" v1 []
          have p2 := pl "size" v2 (putF "many" v1 [])
          refine ⟨v2, x, dx, _, g2, g0, cc, upd_same, C.cl, C.nz, Nat.lt_of_le_of_lt p1 (by decide), ?_⟩
          refine ⟨v3, x, dx, _, g3, g0, cc, upd_same, C.cl, C.nr, Nat.lt_of_le_of_lt (Nat.le_trans p2 (Nat.succ_le_succ p1)) (by decide), ?_⟩
          have r1 : Rep K cc F' (.int l) v1 := r1
          have r2 : Rep K cc F' (.int m) v2 := r2
          have r3 : Rep K cc F' (.tup ws) v3 := r3
          unfold Rep at r1 r2 r3
          subst r1 r2
          obtain ⟨a, o, vs, rfl, t1, t2, t3⟩ := r3
          have hvs := strs_vs hxs t3
          have nF : F' x = none := by
            cases y : F' x with
            | none => rfl
            | some u => rcases R.new x u y with y | y
                        · have y : F0 x = some u := y
                          rw [nx] at y; cases y
                        · have y : H x = none := y
                          rw [hx] at y; cases y
          have ha : a ≠ x := fun z => by subst z; rw [nF] at t1; cases t1
          have ne1 : ¬ (("many" : Str) = "size") := by decide +kernel
          have ne2 : ¬ (("many" : Str) = "rows") := by decide +kernel
          have ne3 : ¬ (("size" : Str) = "rows") := by decide +kernel
          let ofin : HO := .ins cc dx (putF "rows" (.ref a) (putF "size" (.int m) (putF "many" (.int l) [])))
          refine q (upd F' x ofin) _ ⟨fun b u e => ?_, fun b u hb e => ?_, fun b u e => ?_, fun b u e => ?_⟩ ?_
          · rw [upd_ne (ne_of_none (R.f0 _ _ e) nF)]; exact R.f0 _ _ e
          · rw [upd_ne hb, upd_ne hb, upd_ne hb]; exact R.keep b u (fun z => Bool.noConfusion z) e
          · by_cases hb : b = x
            · subst hb; rw [upd_same] at e ⊢; exact e
            · rw [upd_ne hb] at e
              rw [upd_ne hb, upd_ne hb, upd_ne hb]
              exact R.fh _ _ e
          · by_cases hb : b = x
            · exact .inr (.inr hb)
            · rw [upd_ne hb] at e
              exact (R.new b u e).imp id .inl
          · unfold Rep
            refine ⟨x, rfl, dx, _, a, upd_same, ?_, ?_, ?_, ⟨o, by rw [upd_ne ha]; exact t1, ?_⟩, fun y y1 y2 y3 => ?_⟩
            · rw [lookup_putF, if_neg ne2, lookup_putF, if_neg ne1, lookup_putF, if_pos rfl]
            · rw [lookup_putF, if_neg ne3, lookup_putF, if_pos rfl]
            · rw [lookup_putF, if_pos rfl]
            · rw [hvs, List.map_map] at t2; exact t2
            · rw [lookup_putF, if_neg y3, lookup_putF, if_neg y2, lookup_putF, if_neg y1]; rfl
    | exc x s' => rw [z] at q; exact fun F' σ' H' cls od _ R xr => q F' H' cls od (gr R) xr
    | rt d s' => rw [z] at q; exact q.elim
    | bk s' => rw [z] at q; exact q.elim
    | ct s' => rw [z] at q; exact q.elim
    | bad => rw [z] at q; exact q.elim
end
end Cut
namespace Cut
open PySem PySem.Spec L2
open PyProof.Rows hiding St

/-! ### the source of draws -/
def Src.ok (s : Src) : Prop := 0 ≤ s.st ∧ s.st < 2147483647 ∧ 0 ≤ s.k ∧ s.cells.length ≤ 1000
instance (s : Src) : Decidable s.ok := by unfold Src.ok; infer_instance
def Src.at (s : Src) : Nat := (s.k % (max 1 (s.cells.length : Int))).toNat
def Src.cell (s : Src) : Int := (s.cells ++ [0]).getD s.at 0
def Src.next (s : Src) (cap : Int) : Int × Src :=
  if 1000000000000000000 ≤ s.cell then (s.cell % cap, { s with cells := s.cells.set s.at (s.cell / cap) })
  else
    let st' := (s.st * 48271 + s.cell * 69621 + 11) % 2147483647
    ((st' / 7) % cap, ⟨st', s.cells, s.k + 1⟩)
def nextS : SF := fun ds sr => match ds with
  | [.int cap] => if sr.ok ∧ 0 < cap ∧ cap < 1073741824 then .ok (.int (sr.next cap).1) (sr.next cap).2 else .bad
  | _ => .bad
theorem Src.at_lt (s : Src) (h : 0 ≤ s.k) : s.at < (s.cells ++ [0]).length ∧ (s.at : Int) = s.k % (max 1 (s.cells.length : Int)) := by
  have hp : 0 < max 1 (s.cells.length : Int) := by omega
  have h1 := Int.emod_nonneg s.k (show max 1 (s.cells.length : Int) ≠ 0 by omega)
  have h2 := Int.emod_lt_of_pos s.k hp
  unfold Src.at
  rw [List.length_append]
  constructor
  · simp only [List.length_singleton]
    omega
  · omega
theorem Src.next_ok (s : Src) (cap : Int) (h : s.ok) (hc : 0 < cap) : (s.next cap).2.ok ∧ 0 ≤ (s.next cap).1 ∧ (s.next cap).1 < cap := by
  unfold Src.next
  split
  · exact ⟨⟨h.1, h.2.1, h.2.2.1, by simpa using h.2.2.2⟩, Int.emod_nonneg _ (by omega), Int.emod_lt_of_pos _ hc⟩
  · refine ⟨⟨Int.emod_nonneg _ (by decide), Int.emod_lt_of_pos _ (by decide), ?_, h.2.2.2⟩, Int.emod_nonneg _ (by omega), Int.emod_lt_of_pos _ hc⟩
    have := h.2.2.1
    show 0 ≤ s.k + 1
    omega
/-- the shape of the two defs' text -/
def nNames : List Str := ["_law_h", "_law_cap", "_law_cell"]
section
variable {P : Program} {w : World} {K : PySem.W.Frag} {mg : Str → Option Value} {base : Heap} {cc : Addr}
end
end Cut
namespace Cut
open PySem PySem.Spec L2
open PyProof.Rows hiding St

def spMix (K : PySem.W.Frag) : Sp := fun vs H Q E => ∃ (sc : Addr) (ns : List Int) (seed : Int), vs = [.ref sc, .int seed] ∧ SqL K H sc (ns.map V.int) ∧ ns.length ≤ 63 ∧ 0 ≤ seed ∧ seed < 2147483647 ∧
  ∀ H' a b sr, Same H H' → H a = none → H b = none → SrcAt H' a b sr → sr.ok → Q (.ref a) H'
def spLaw (K : PySem.W.Frag) : Sp := fun vs H Q _ => ∃ (a : Addr) (ns : List Int), vs = [.ref a] ∧ SqL K H a (ns.map V.int) ∧ ns.length ≤ 63 ∧ ∀ H', Q (.bl true) H'
/-- the law's first statement -/
def lawHead (N : List Str) (sc : Scope) : Stmt → Bool
  | .Assign [.Name h _] (.Call (.Name m _) [.Name s _, .Constant (.int seed) _ _] [] _) _ => decide (N[0]? = some s) && decide (N[1]? = some h) && decide (m = ("_law_mix" : Str)) && decide (0 ≤ seed) && decide (seed < 1000) &&
      (SE.mk N sc none).vis 0 s && (SE.mk N sc none).loc 1 h && (SE.mk N sc none).gl m
  | _ => false
def envL (N : List Str) : List (Option DV) := none :: some .src :: List.replicate (N.length - 2) none
section
variable {P : Program} {w : World} {K : PySem.W.Frag} {mg : Str → Option Value} {base : Heap} {cc : Addr} {k : Nat} {tb : Tb} {ex : List Str} {Γ : Gam}
theorem fn_law {x qual : Str} {st : Stmt} {f fM : Addr} {fd fdM : FuncData} {N psM : List Str} (st0 : Stmt) (rest : List Stmt) (il : Sx) (F : Fun K x qual st f fd) (Sc : FnScope N ["_law_script"] (defScope st)) (hbody : defBody st = st0 :: rest)
    (h0 : lawHead N (defScope st) st0 = true) (hN : 2 ≤ N.length) (hc : chB tb ex ⟨N, defScope st, none⟩ il rest = true) (Ft : Facts P w K mg base cc k tb ex Γ)
    (gM : mg "_law_mix" = some (.ref fM)) (M : FnOk P w K mg base (L2.CX P w) k fM fdM psM (spMix K)) (kM : PySem.W.keepIn K (.ref fM) = true) (bM : Binds K fdM psM [])
    (hD : ∀ sr : Src, sr.ok → ∃ s', evB Γ il ⟨envL N, sr⟩ = .rt (.bl true) s') :
    FnOk P w K mg base (L2.CX P w) (k + 1) f fd ["_law_script"] (spLaw K) := by
  refine F.okX Sc (fun vs H Q E h => ?_) (fun cdv A outer s H vs Q E hr h => ?_)
  · obtain ⟨a, ns, rfl, _⟩ := h; rfl
  · obtain ⟨sc, ns, rfl, hS, hlen, q⟩ := h
    rw [hbody]
    -- the head's shape
    unfold lawHead at h0
    split at h0
    case h_2 => cases h0
    case h_1 hh p1 m p2 ss p3 seed kk p4 p5 p6 =>
      simp only [Bool.and_eq_true, decide_eq_true_eq] at h0
      obtain ⟨⟨⟨⟨⟨⟨⟨n0, n1⟩, em⟩, s0⟩, s1⟩, v0⟩, l1⟩, g1⟩ := h0
      subst em
      have B0 := goodB_of (Φ := ⟨cc, fun _ => none, fun _ => none, false, 0, 0⟩) (f := f) (cdv := cdv) (A := A) (outer := outer) (s := s) (H := H) (E := E) (qual := qual) Ft rfl Sc hr
      obtain ⟨a1, a2, a3, a4⟩ := vis_of B0.g v0
      obtain ⟨b1, b2, b3⟩ := loc_of B0.g l1
      obtain ⟨c1, c2, c3⟩ := gl_of B0.g g1
      have hrest : PSs (cxOf (L2.CX P w) P w K mg base N qual (defScope st) f cdv A outer s H E) rest (fun D σ H1 => ∃ Φ : Fx, Φ.cc = cc ∧ tS K mg Φ (fun cls d _ H => E cls d H) (evB Γ il) D σ H1) :=
        ⟨fun pins s1 σ H1 D I ⟨Φ, e, h⟩ => (sB (goodB_of Ft e Sc hr) il rest hc).run pins s1 σ H1 D I h⟩
      refine ⟨_, pss_cons (ps_set (i := 1) Sc.nd b1 b2 (pe_callSD (E := fun _ => fun _ _ _ => False) M hr c1 gM kM bM .nil (fun σ => fun _ _ _ _ _ _ z => by obtain ⟨_, _, _, _, _, _, _, _, _, _, _, _, w⟩ := z; exact w.elim) (pa_cons (pe_var a1 a2 a3 a4) (pa_cons pe_int pa_nil)) c2) rfl b3) hrest, ?_⟩
      have e0 : (L2.start N [V.ref sc])[0]? = some (some (.ref sc)) := by unfold L2.start; rfl
      refine ⟨.ref sc, e0, sc, ns, seed, rfl, hS, hlen, s0, by omega, fun H' a b sr sm na nb sx ok => ?_⟩
      obtain ⟨s', hs'⟩ := hD sr ok
      refine ⟨⟨cc, H, H', true, a, b⟩, rfl, H, ⟨envL N, sr⟩, ⟨Same.refl _, sm, fun a o e => .inl e, fun a o _ e => e, fun _ => sx, fun _ => ⟨na, nb, by show H' a ≠ none; rw [sx.2.1]; simp, by show H' b ≠ none; rw [sx.2.2]; simp⟩, ?_, fun i dv e => ?_, fun i j d d' c _ e => ?_⟩, ?_⟩
      · unfold L2.start envL
        simp; omega
      · have e : (none :: some DV.src :: List.replicate (N.length - 2) none)[i]? = some (some dv) := e
        match i, e with
        | 0, e => cases e
        | 1, e =>
          cases e
          refine ⟨.ref a, ?_, rfl, rfl⟩
          rw [List.getElem?_set_self (by unfold L2.start; simp; omega)]
        | i + 2, e =>
          rw [List.getElem?_cons_succ, List.getElem?_cons_succ, List.getElem?_replicate] at e
          split at e <;> cases e
      · have e : (none :: some DV.src :: List.replicate (N.length - 2) none)[i]? = some (some (.own d)) := e
        match i, e with
        | 0, e => cases e
        | 1, e => cases e
        | i + 2, e =>
          rw [List.getElem?_cons_succ, List.getElem?_cons_succ, List.getElem?_replicate] at e
          split at e <;> cases e
      · rw [hs']
        intro F' σ' H2 v _ _ rv
        unfold Rep at rv
        subst rv
        exact q H2
end
end Cut
namespace Cut
open PySem PySem.Spec L2
open PyProof.Rows hiding St

/-! ### what a run comes to: plain laws of the middle language -/
def Rs.wp {α : Type} (r : Rs α) (P : α → DS → Prop) (E : Xc → DS → Prop) : Prop := match r with
  | .ok a s => P a s
  | .exc x s => E x s
  | .bad => False
/-- N for a run that goes on, E for any other -/
def Rst.wp (r : Rst) (N : DS → Prop) (E : Rst → Prop) : Prop := match r with
  | .nx s => N s
  | .rt d s => E (.rt d s)
  | .bk s => E (.bk s)
  | .ct s => E (.ct s)
  | .exc x s => E (.exc x s)
  | .bad => False
section
variable {α β : Type} {Γ : Gam} {s : DS} {N : DS → Prop} {E : Rst → Prop} {X : Xc → DS → Prop}
theorem wp_bind {r : Rs α} {g : α → DS → Rs β} {P : β → DS → Prop} : (r.bind g).wp P X = r.wp (fun a s => (g a s).wp P X) X := by cases r <;> rfl
theorem wp_then {r : Rs α} {g : α → DS → Rst} : (r.then g).wp N E = r.wp (fun a s => (g a s).wp N E) (fun x s => E (.exc x s)) := by cases r <;> rfl
theorem wp_ok {a : α} {P : α → DS → Prop} : (Rs.ok a s).wp P X = P a s := rfl
theorem wp_exc {x : Xc} {P : α → DS → Prop} : (Rs.exc x s).wp P X = X x s := rfl
theorem wp_bad {P : α → DS → Prop} : (Rs.bad : Rs α).wp P X = False := rfl
theorem wp_of {o : Option α} {P : α → DS → Prop} : (Rs.of o s).wp P X = ∃ z, o = some z ∧ P z s := by
  cases o <;> simp [Rs.of, Rs.wp]
theorem wp_of_some {a : α} {P : α → DS → Prop} : (Rs.of (some a) s).wp P X = P a s := rfl
theorem wp_of_ite {c : Prop} [Decidable c] {a : α} {P : α → DS → Prop} : (Rs.of (if c then some a else none) s).wp P X = (c ∧ P a s) := by
  by_cases h : c <;> simp [h, Rs.of, Rs.wp]
theorem wp_ite {c : Prop} [Decidable c] {a b : Rs α} {P : α → DS → Prop} : (if c then a else b).wp P X = ((c → a.wp P X) ∧ (¬ c → b.wp P X)) := by
  by_cases h : c <;> simp [h]
theorem wp_iteS {c : Prop} [Decidable c] {a b : Rst} : (if c then a else b).wp N E = ((c → a.wp N E) ∧ (¬ c → b.wp N E)) := by
  by_cases h : c <;> simp [h]
theorem wp_seq {g h : DS → Rst} : (seqS g h s).wp N E = (g s).wp (fun s => (h s).wp N E) E := by
  unfold seqS
  cases g s <;> rfl
theorem wp_nx : (Rst.nx s).wp N E = N s := rfl
theorem wp_rt {d : D} : (Rst.rt d s).wp N E = E (.rt d s) := rfl
theorem wp_bk : (Rst.bk s).wp N E = E (.bk s) := rfl
theorem wp_ct : (Rst.ct s).wp N E = E (.ct s) := rfl
theorem wp_xc {x : Xc} : (Rst.exc x s).wp N E = E (.exc x s) := rfl
theorem wp_no : Rst.bad.wp N E = False := rfl
theorem Rs.wp.imp {r : Rs α} {P Q : α → DS → Prop} (h : r.wp P X) (q : ∀ a s, P a s → Q a s) : r.wp Q X := by
  cases r <;> simp [Rs.wp] at h ⊢ <;> first | exact q _ _ h | exact h
theorem Rst.wp.imp {r : Rst} {N' : DS → Prop} (h : r.wp N E) (q : ∀ s, N s → N' s) : r.wp N' E := by
  cases r <;> simp [Rst.wp] at h ⊢ <;> first | exact q _ h | exact h
/-! the middle language's words, one by one -/
theorem w_var {i : Nat} {P : D → DS → Prop} : (evE Γ (.var i) s).wp P X = (getV i s).wp P X := rfl
theorem w_bor {i : Nat} {P : D → DS → Prop} : (evE Γ (.bor i) s).wp P X = (borV i s).wp P X := rfl
theorem w_kint {i : Int} {P : D → DS → Prop} : (evE Γ (.kint i) s).wp P X = P (.int i) s := rfl
theorem w_kstr {i : Wd} {P : D → DS → Prop} : (evE Γ (.kstr i) s).wp P X = P (.str i) s := rfl
theorem w_kbl {i : Bool} {P : D → DS → Prop} : (evE Γ (.kbl i) s).wp P X = P (.bl i) s := rfl
theorem w_knon {P : D → DS → Prop} : (evE Γ .knon s).wp P X = P .non s := rfl
theorem w_gint {j : Nat} {i : Int} {P : D → DS → Prop} : (evE Γ (.gint j i) s).wp P X = P (.int i) s := rfl
theorem w_gstr {j : Nat} {i : Wd} {P : D → DS → Prop} : (evE Γ (.gstr j i) s).wp P X = P (.str i) s := rfl
theorem w_bin {o : Bo} {a b : Ex} {P : D → DS → Prop} : (evE Γ (.bin o a b) s).wp P X = (evE Γ a s).wp (fun x s => (evE Γ b s).wp (fun y s => (Rs.of (o.f x y) s).wp P X) X) X := by
  show ((evE Γ a s).bind _).wp P X = _
  simp only [wp_bind]
theorem w_binN {o : BoN} {a b : Ex} {P : D → DS → Prop} : (evE Γ (.binN o a b) s).wp P X = (evE Γ a s).wp (fun x s => (evE Γ b s).wp (fun y s => (Rs.of (o.f x y) s).wp P X) X) X := by
  show ((evE Γ a s).bind _).wp P X = _
  simp only [wp_bind]
theorem w_cmp {o : Co} {a b : Ex} {P : D → DS → Prop} : (evE Γ (.cmp o a b) s).wp P X = (evE Γ a s).wp (fun x s => (evE Γ b s).wp (fun y s => (Rs.of (o.f x y) s).wp P X) X) X := by
  show ((evE Γ a s).bind _).wp P X = _
  simp only [wp_bind]
theorem w_ix {a b : Ex} {P : D → DS → Prop} : (evE Γ (.ix a b) s).wp P X = (evE Γ a s).wp (fun x s => (evE Γ b s).wp (fun y s => (Rs.of (ixD x y) s).wp P X) X) X := by
  show ((evE Γ a s).bind _).wp P X = _
  simp only [wp_bind]
def chnW (op' : D → D → Option D) (h : DS → Rs D) (y : D) (o : Option D) (s : DS) : Rs D := match o with
  | some (.bl true) => (h s).bind fun z s => Rs.of (op' y z) s
  | some (.bl false) => .ok (.bl false) s
  | _ => .bad
theorem chnW_b {op' : D → D → Option D} {h : DS → Rs D} {y : D} {b : Bool} {P : D → DS → Prop} : (chnW op' h y (some (.bl b)) s).wp P X = ((b = true → (h s).wp (fun z s => (Rs.of (op' y z) s).wp P X) X) ∧ (b = false → P (.bl false) s)) := by
  cases b <;> simp [chnW, wp_bind, wp_ok]
theorem w_chn {o o' : Co} {a b c : Ex} {P : D → DS → Prop} : (evE Γ (.chn o o' a b c) s).wp P X = (evE Γ a s).wp (fun x s => (evE Γ b s).wp (fun y s => (chnW o'.f (evE Γ c) y (o.f x y) s).wp P X) X) X := by
  show ((evE Γ a s).bind _).wp P X = _
  simp only [wp_bind]
  rfl
theorem w_neg {a : Ex} {P : D → DS → Prop} : (evE Γ (.neg a) s).wp P X = (evE Γ a s).wp (fun x s => ∃ i, x = .int i ∧ P (.int (-i)) s) X := by
  show ((evE Γ a s).bind _).wp P X = _
  rw [wp_bind]
  congr 1; funext d s
  cases d <;> simp [Rs.wp]
theorem w_notv {a : Ex} {P : D → DS → Prop} : (evE Γ (.notv a) s).wp P X = (evE Γ a s).wp (fun x s => ∃ b, x = .bl b ∧ P (.bl (!b)) s) X := by
  show ((evE Γ a s).bind _).wp P X = _
  rw [wp_bind]
  congr 1; funext d s
  cases d <;> simp [Rs.wp]
theorem w_one {a : Ex} {P : D → DS → Prop} : (evE Γ (.one a) s).wp P X = (evE Γ a s).wp P X := rfl
theorem w_andv {a r : Ex} {P : D → DS → Prop} : (evE Γ (.andv a r) s).wp P X = (evE Γ a s).wp (fun x s => ∃ b, x = .bl b ∧ (b = true → (evE Γ r s).wp P X) ∧ (b = false → P (.bl false) s)) X := by
  show ((evE Γ a s).bind _).wp P X = _
  rw [wp_bind]
  congr 1; funext d s
  cases d <;> simp [Rs.wp]
  rename_i b; cases b <;> simp [Rs.wp]
theorem w_orv {a r : Ex} {P : D → DS → Prop} : (evE Γ (.orv a r) s).wp P X = (evE Γ a s).wp (fun x s => ∃ b, x = .bl b ∧ (b = false → (evE Γ r s).wp P X) ∧ (b = true → P (.bl true) s)) X := by
  show ((evE Γ a s).bind _).wp P X = _
  rw [wp_bind]
  congr 1; funext d s
  cases d <;> simp [Rs.wp]
  rename_i b; cases b <;> simp [Rs.wp]
theorem w_ite {t a b : Ex} {P : D → DS → Prop} : (evE Γ (.ite t a b) s).wp P X = (evT Γ t s).wp (fun c s => (c = true → (evE Γ a s).wp P X) ∧ (c = false → (evE Γ b s).wp P X)) X := by
  show ((evT Γ t s).bind _).wp P X = _
  rw [wp_bind]
  congr 1; funext d s
  cases d <;> simp
theorem w_tup {es : Ex} {P : D → DS → Prop} : (evE Γ (.tup es) s).wp P X = (evA Γ es s).wp (fun ds s => ds.length ≤ LN ∧ P (.tup ds) s) X := by
  show ((evA Γ es s).bind _).wp P X = _
  rw [wp_bind]
  congr 1; funext d s
  split <;> simp [Rs.wp, *]
theorem w_lst {es : Ex} {P : D → DS → Prop} : (evE Γ (.lst es) s).wp P X = (evA Γ es s).wp (fun ds s => ds.length ≤ LN ∧ P (.lst ds) s) X := by
  show ((evA Γ es s).bind _).wp P X = _
  rw [wp_bind]
  congr 1; funext d s
  split <;> simp [Rs.wp, *]
theorem w_cal {b : Bi} {es : Ex} {P : D → DS → Prop} : (evE Γ (.cal b es) s).wp P X = (evA Γ es s).wp (fun ds s => (Rs.of (b.f ds) s).wp P X) X := by
  show ((evA Γ es s).bind _).wp P X = _
  rw [wp_bind]
theorem w_listN {es : Ex} {P : D → DS → Prop} : (evE Γ (.listN es) s).wp P X = (evA Γ es s).wp (fun ds s => (Rs.of (listL ds) s).wp P X) X := by
  show ((evA Γ es s).bind _).wp P X = _
  rw [wp_bind]
theorem w_tupC {es : Ex} {P : D → DS → Prop} : (evE Γ (.tupC es) s).wp P X = (evA Γ es s).wp (fun ds s => (Rs.of (tupL ds) s).wp P X) X := by
  show ((evA Γ es s).bind _).wp P X = _
  rw [wp_bind]
theorem w_intC {es : Ex} {P : D → DS → Prop} : (evE Γ (.intC es) s).wp P X = (evA Γ es s).wp (fun ds s => (Rs.of (int1 ds) s).wp P X) X := by
  show ((evA Γ es s).bind _).wp P X = _
  rw [wp_bind]
theorem w_isi {t : Ty} {a : Ex} {P : D → DS → Prop} : (evE Γ (.isi t a) s).wp P X = (evE Γ a s).wp (fun d s => (Rs.of (isiD t d) s).wp P X) X := by
  show ((evE Γ a s).bind _).wp P X = _
  rw [wp_bind]
theorem w_isi2 {t u : Ty} {a : Ex} {P : D → DS → Prop} : (evE Γ (.isi2 t u a) s).wp P X = (evE Γ a s).wp (fun d s => (Rs.of ((tyN d).map fun _ => .bl (isTy t d || isTy u d)) s).wp P X) X := by
  show ((evE Γ a s).bind _).wp P X = _
  rw [wp_bind]
theorem w_sl {a l u : Ex} {P : D → DS → Prop} : (evE Γ (.sl a l u) s).wp P X = (evE Γ a s).wp (fun d s => (evP Γ l s).wp (fun lo s => (evP Γ u s).wp (fun hi s => (Rs.of (slD d lo hi) s).wp P X) X) X) X := by
  show ((evE Γ a s).bind _).wp P X = _
  simp only [wp_bind]
theorem w_slN {a l u : Ex} {P : D → DS → Prop} : (evE Γ (.slN a l u) s).wp P X = (evE Γ a s).wp (fun d s => (evP Γ l s).wp (fun lo s => (evP Γ u s).wp (fun hi s => (Rs.of (Cut.slN d lo hi) s).wp P X) X) X) X := by
  show ((evE Γ a s).bind _).wp P X = _
  simp only [wp_bind]
theorem w_pn {P : Option Int → DS → Prop} : (evP Γ .pn s).wp P X = P none s := rfl
theorem w_ps {a : Ex} {P : Option Int → DS → Prop} : (evP Γ (.ps a) s).wp P X = (evE Γ a s).wp (fun d s => ∃ i, d = .int i ∧ P (some i) s) X := by
  show ((evE Γ a s).bind _).wp P X = _
  rw [wp_bind]
  congr 1; funext d s
  cases d <;> simp [Rs.wp]
theorem w_nil {P : List D → DS → Prop} : (evA Γ .nil s).wp P X = P [] s := rfl
theorem w_cons {a r : Ex} {P : List D → DS → Prop} : (evA Γ (.cons a r) s).wp P X = (evE Γ a s).wp (fun d s => (evA Γ r s).wp (fun ds s => P (d :: ds) s) X) X := by
  show ((evE Γ a s).bind _).wp P X = _
  simp only [wp_bind]
  rfl
theorem w_tval {a : Ex} {P : Bool → DS → Prop} : (evT Γ (.tval a) s).wp P X = (evE Γ a s).wp (fun d s => ∃ b, d = .bl b ∧ P b s) X := by
  show ((evE Γ a s).bind _).wp P X = _
  rw [wp_bind]
  congr 1; funext d s
  cases d <;> simp [Rs.wp]
theorem w_tcmp {o : Co} {a b : Ex} {P : Bool → DS → Prop} : (evT Γ (.tcmp o a b) s).wp P X = (evE Γ (.cmp o a b) s).wp (fun d s => ∃ b, d = .bl b ∧ P b s) X := by
  show ((evE Γ (.cmp o a b) s).bind _).wp P X = _
  rw [wp_bind]
  congr 1; funext d s
  cases d <;> simp [Rs.wp]
theorem w_tchn {o o' : Co} {a b c : Ex} {P : Bool → DS → Prop} : (evT Γ (.tchn o o' a b c) s).wp P X = (evE Γ (.chn o o' a b c) s).wp (fun d s => ∃ b, d = .bl b ∧ P b s) X := by
  show ((evE Γ (.chn o o' a b c) s).bind _).wp P X = _
  rw [wp_bind]
  congr 1; funext d s
  cases d <;> simp [Rs.wp]
theorem w_tnot {a : Ex} {P : Bool → DS → Prop} : (evT Γ (.tnot a) s).wp P X = (evT Γ a s).wp (fun b s => P (!b) s) X := by
  show ((evT Γ a s).bind _).wp P X = _
  rw [wp_bind]
  rfl
theorem w_tw {a : Ex} {P : Bool → DS → Prop} : (evT Γ (.tw a) s).wp P X = (evT Γ a s).wp P X := rfl
theorem w_tone {a : Ex} {P : Bool → DS → Prop} : (evT Γ (.tone a) s).wp P X = (evT Γ a s).wp P X := rfl
theorem w_tyes {P : Bool → DS → Prop} : (evT Γ .tyes s).wp P X = P true s := rfl
theorem w_tand {a r : Ex} {P : Bool → DS → Prop} : (evT Γ (.tand a r) s).wp P X = (evT Γ a s).wp (fun b s => (b = true → (evT Γ r s).wp P X) ∧ (b = false → P false s)) X := by
  show ((evT Γ a s).bind _).wp P X = _
  rw [wp_bind]
  congr 1; funext d s
  cases d <;> simp [Rs.wp]
theorem w_tor {a r : Ex} {P : Bool → DS → Prop} : (evT Γ (.tor a r) s).wp P X = (evT Γ a s).wp (fun b s => (b = false → (evT Γ r s).wp P X) ∧ (b = true → P true s)) X := by
  show ((evT Γ a s).bind _).wp P X = _
  rw [wp_bind]
  congr 1; funext d s
  cases d <;> simp [Rs.wp]
theorem w_seq {a : Ex} {P : List D → DS → Prop} : (evI Γ (.seq a) s).wp P X = (evE Γ a s).wp (fun d s => (Rs.of (itemsOf d) s).wp P X) X := by
  show ((evE Γ a s).bind _).wp P X = _
  rw [wp_bind]
theorem w_r1 {es : Ex} {P : List D → DS → Prop} : (evI Γ (.r1 es) s).wp P X = (evA Γ es s).wp (fun d s => (Rs.of (rng1 d) s).wp P X) X := by
  show ((evA Γ es s).bind _).wp P X = _
  rw [wp_bind]
theorem w_r2 {es : Ex} {P : List D → DS → Prop} : (evI Γ (.r2 es) s).wp P X = (evA Γ es s).wp (fun d s => (Rs.of (rng2 d) s).wp P X) X := by
  show ((evA Γ es s).bind _).wp P X = _
  rw [wp_bind]
theorem w_r3 {es : Ex} {P : List D → DS → Prop} : (evI Γ (.r3 es) s).wp P X = (evA Γ es s).wp (fun d s => (Rs.of (rng3 d) s).wp P X) X := by
  show ((evA Γ es s).bind _).wp P X = _
  rw [wp_bind]
/-! statements -/
theorem w_snil : (evB Γ .nil s).wp N E = N s := rfl
theorem w_scons {a r : Sx} : (evB Γ (.cons a r) s).wp N E = (evS Γ a s).wp (fun s => (evB Γ r s).wp N E) E := wp_seq
theorem w_ret {a : Ex} : (evS Γ (.ret a) s).wp N E = (evE Γ a s).wp (fun d s => E (.rt d s)) (fun x s => E (.exc x s)) := wp_then
theorem w_retN : (evS Γ .retN s).wp N E = E (.rt .non s) := rfl
theorem w_asg {i : Nat} {a : Ex} : (evS Γ (.asg i a) s).wp N E = (evE Γ a s).wp (fun d s => i < s.env.length ∧ N { s with env := s.env.set i (some (.im d)) }) (fun x s => E (.exc x s)) := by
  refine wp_then.trans ?_
  congr 1; funext d s
  split <;> simp [Rst.wp, *]
theorem w_own {i : Nat} {a : Ex} : (evS Γ (.own i a) s).wp N E = (evE Γ a s).wp (fun d s => i < s.env.length ∧ N { s with env := s.env.set i (some (.own d)) }) (fun x s => E (.exc x s)) := by
  refine wp_then.trans ?_
  congr 1; funext d s
  split <;> simp [Rst.wp, *]
theorem w_par {i j : Nat} {a b : Ex} : (evS Γ (.par i j a b) s).wp N E = (evE Γ a s).wp (fun x s => (evE Γ b s).wp (fun y s => (i < s.env.length ∧ j < s.env.length) ∧ N { s with env := (s.env.set i (some (.im x))).set j (some (.im y)) }) (fun x s => E (.exc x s))) (fun x s => E (.exc x s)) := by
  refine wp_then.trans ?_
  rw [w_cons]
  congr 1; funext x s
  rw [w_cons]
  congr 1; funext y s
  rw [w_nil]
  split
  · rename_i h; cases h; split <;> simp [Rst.wp, *]
  · rename_i h; exact absurd rfl (h _ _)
theorem w_unp {tg : Tg} {a : Ex} : (evS Γ (.unp tg a) s).wp N E = (evE Γ a s).wp (fun d s => ∃ s', tg.t d s = some s' ∧ N s') (fun x s => E (.exc x s)) := by
  refine wp_then.trans ?_
  congr 1; funext d s
  cases z : tg.t d s <;> simp [Rst.wp]
theorem w_lcAf {i : Nat} {a : Ex} : (evS Γ (.lcA false i a) s).wp N E = (evE Γ a s).wp (fun d s => i < s.env.length ∧ N { s with env := s.env.set i (some (.im d)) }) (fun x s => E (.exc x s)) := w_asg
theorem w_lcAt {i : Nat} {a : Ex} : (evS Γ (.lcA true i a) s).wp N E = (evE Γ a s).wp (fun d s => i < s.env.length ∧ N { s with env := s.env.set i (some (.own d)) }) (fun x s => E (.exc x s)) := w_own
theorem w_expr {a : Ex} : (evS Γ (.expr a) s).wp N E = (evE Γ a s).wp (fun _ s => N s) (fun x s => E (.exc x s)) := wp_then
theorem w_if {t : Ex} {b c : Sx} : (evS Γ (.ite t b c) s).wp N E = (evT Γ t s).wp (fun k s => (k = true → (evB Γ b s).wp N E) ∧ (k = false → (evB Γ c s).wp N E)) (fun x s => E (.exc x s)) := by
  refine wp_then.trans ?_
  congr 1; funext d s
  cases d <;> simp
theorem w_for {tg : Tg} {it : Ex} {b : Sx} : (evS Γ (.for_ tg it b) s).wp N E = (evI Γ it s).wp (fun items s => (forL tg.t (evB Γ b) items s).wp N E) (fun x s => E (.exc x s)) := wp_then
theorem w_brk : (evS Γ .brk s).wp N E = E (.bk s) := rfl
theorem w_cnt : (evS Γ .cnt s).wp N E = E (.ct s) := rfl
theorem w_pass : (evS Γ .pass s).wp N E = N s := rfl
theorem w_raise {x : Str} : (evS Γ (.raise0 x) s).wp N E = E (.exc ⟨x, []⟩ s) := rfl
theorem w_aug {i : Nat} {o : Ia} {a : Ex} {d : D} {env : List (Option DV)} {src : Src} (h : env[i]? = some (some (.im d))) :
    (evS Γ (.aug i o a) ⟨env, src⟩).wp N E = (evE Γ a ⟨env, src⟩).wp (fun e s => ∃ z, o.f d e = some z ∧ i < s.env.length ∧ N { s with env := s.env.set i (some (.im z)) }) (fun x s => E (.exc x s)) := by
  show (augS i o.f (evE Γ a) ⟨env, src⟩).wp N E = _
  unfold augS
  dsimp only
  rw [h]
  dsimp only
  rw [wp_then]
  congr 1; funext e s
  cases z : o.f d e with
  | none => simp [Rst.wp]
  | some q => by_cases hi : i < s.env.length <;> simp [hi, Rst.wp]
theorem w_app {i : Nat} {a : Ex} : (evS Γ (.app i a) s).wp N E = (appS i (evE Γ a) s).wp N E := rfl

/-- a for loop with an invariant over the items that are left -/
theorem wp_forL {t : D → DS → Option DS} {b : DS → Rst} (I : List D → DS → Prop) : ∀ (items : List D) (s : DS), I items s →
    (∀ d r s, I (d :: r) s → ∃ s1, t d s = some s1 ∧ (b s1).wp (I r) (fun q => match q with | .bk s => N s | .ct s => I r s | q => E q)) → (∀ s, I [] s → N s) → (forL t b items s).wp N E
  | [], s, h, _, k => k s h
  | d :: r, s, h, st, k => by
    obtain ⟨s1, e1, h1⟩ := st d r s h
    unfold forL
    rw [e1]
    cases z : b s1 with
    | nx s2 => rw [z] at h1; simp only [z]; exact wp_forL I r s2 h1 st k
    | ct s2 => rw [z] at h1; simp only [z]; exact wp_forL I r s2 h1 st k
    | bk s2 => rw [z] at h1; simp only [z]; exact h1
    | rt d s2 => rw [z] at h1; simp only [z]; exact h1
    | exc d s2 => rw [z] at h1; simp only [z]; exact h1
    | bad => rw [z] at h1; exact h1.elim
/-- .. and an invariant over how many are done, the items a list of words -/
def Rd.wp (r : Rd) (P : D → Src → Prop) (X : Xc → Src → Prop) : Prop := match r with
  | .ok d s => P d s
  | .exc x s => X x s
  | .bad => False
theorem Rd.wp.imp {r : Rd} {P Q : D → Src → Prop} {X Y : Xc → Src → Prop} (h : r.wp P X) (q : ∀ a s, P a s → Q a s) (qx : ∀ a s, X a s → Y a s := by exact fun _ _ h => h.elim) : r.wp Q Y := by
  cases r <;> simp [Rd.wp] at h ⊢ <;> first | exact q _ _ h | exact qx _ _ h
/-- a draw -/
theorem wp_next {j i : Nat} {es : Ex} {P : D → DS → Prop} (hj : Γ.sf j = (nextS, 1)) (he : s.env[i]? = some (some .src))
    (hg : (evA Γ es s).wp (fun ds s1 => ∃ cap, ds = [.int cap] ∧ s1.src.ok ∧ (0 < cap ∧ cap < 1073741824) ∧ ∀ v sr, 0 ≤ v → v < cap → sr.ok → P (.int v) { s1 with src := sr }) X) : (evE Γ (.calls j i es) s).wp P X := by
  show (callS i (Γ.sf j).1 (Γ.sf j).2 (evA Γ es) s).wp P X
  rw [hj]
  unfold callS
  rw [he]
  simp only [wp_bind]
  refine hg.imp fun ds s1 ⟨cap, e, hs, ⟨h0, h1⟩, h⟩ => ?_
  subst e
  rw [if_pos (show [D.int cap].length = 1 from rfl)]
  have := Src.next_ok s1.src cap hs h0
  simp only [nextS]
  rw [if_pos ⟨hs, h0, h1⟩]
  exact h _ _ this.2.1 this.2.2 this.1
/-- a def with the source that is known: f's law -/
theorem wp_calls {j i n : Nat} {f : SF} {es : Ex} {P : D → DS → Prop} (hj : Γ.sf j = (f, n)) (he : s.env[i]? = some (some .src))
    (hg : (evA Γ es s).wp (fun ds s1 => ds.length = n ∧ (f ds s1.src).wp (fun d sr => P d { s1 with src := sr }) (fun x sr => X x { s1 with src := sr })) X) : (evE Γ (.calls j i es) s).wp P X := by
  show (callS i (Γ.sf j).1 (Γ.sf j).2 (evA Γ es) s).wp P X
  rw [hj]
  unfold callS
  rw [he]
  simp only [wp_bind]
  refine hg.imp fun ds s1 ⟨e, h⟩ => ?_
  rw [if_pos e]
  cases z : f ds s1.src <;> rw [z] at h <;> exact h
/-- a pure def that is known to answer -/
theorem wp_call {j n : Nat} {f : PF} {es : Ex} {P : D → DS → Prop} (hj : Γ.pf j = (f, n)) (hg : (evA Γ es s).wp (fun ds s1 => ds.length = n ∧ ∃ d, f ds = .ok d ∧ P d s1) X) : (evE Γ (.call j es) s).wp P X := by
  show (callP (Γ.pf j).1 (Γ.pf j).2 (evA Γ es) s).wp P X
  rw [hj]
  unfold callP
  simp only [wp_bind]
  refine hg.imp fun ds s1 ⟨e, d, h1, h2⟩ => ?_
  rw [if_pos e, h1]
  exact h2
theorem wp_of_eq {r : Rs α} {a : α} {P : α → DS → Prop} (h : r = .ok a s) (q : P a s) : r.wp P X := by rw [h]; exact q
theorem eq_of_wp {r : Rs α} {a : α} (h : r.wp (fun b t => b = a ∧ t = s) (fun _ _ => False)) : r = .ok a s := by
  cases r <;> simp [Rs.wp] at h
  rw [h.1, h.2]
end
theorem semP_wp {N : List Str} {n : Nat} {g : DS → Rst} {ds : List D} {d : D} (hl : ds.length = n) (h : (g ⟨envP N ds, ⟨0, [], 0⟩⟩).wp (fun _ => d = .non) (fun r => ∃ s, r = .rt d s)) : semP N n g ds = .ok d := by
  unfold semP
  rw [if_pos hl]
  cases z : g ⟨envP N ds, ⟨0, [], 0⟩⟩ <;> rw [z] at h
  case nx s => simp only [wp_nx] at h; rw [h]
  case bad => exact h.elim
  all_goals (obtain ⟨s, e⟩ := h; cases e)
  rfl
theorem semS_wp {N : List Str} {n : Nat} {g : DS → Rst} {ds : List D} {sr : Src} {P : D → Src → Prop} {X : Xc → Src → Prop} (hl : ds.length = n) (h : (g ⟨envS N ds, sr⟩).wp (fun s => P .non s.src) fun r => match r with | .rt d s => P d s.src | .exc x s => X x s.src | _ => False) : (semS N n g ds sr).wp P X := by
  unfold semS
  rw [if_pos hl]
  cases z : g ⟨envS N ds, sr⟩ <;> rw [z] at h <;> first | exact h | exact h.elim
theorem law_of {r : Rst} (h : r.wp (fun _ => False) fun r => ∃ s, r = .rt (.bl true) s) : ∃ s', r = .rt (.bl true) s' := by
  cases r <;> first | exact h | exact h.elim
/-! the operators, kind by kind -/
section
variable {x y : Wd} {i j : Int} {a b : Bool} {xs ys : List D} {d : D} {lo hi : Option Int}
theorem addD_i : addD (.int i) (.int j) = some (.int (i + j)) := rfl
theorem addD_s : addD (.str x) (.str y) = if x.length + y.length ≤ LN then some (.str (x ++ y)) else none := rfl
theorem addD_t : addD (.tup xs) (.tup ys) = if xs.length + ys.length ≤ LN then some (.tup (xs ++ ys)) else none := rfl
theorem catD_l : catD (.lst xs) (.lst ys) = if xs.length + ys.length ≤ LN then some (.lst (xs ++ ys)) else none := rfl
theorem subD_i : subD (.int i) (.int j) = some (.int (i - j)) := rfl
theorem mulD_i : mulD (.int i) (.int j) = if (-(2 ^ 64) < i ∧ i < 2 ^ 64) ∨ (-(2 ^ 64) < j ∧ j < 2 ^ 64) then some (.int (i * j)) else none := rfl
theorem mulD_s : mulD (.str x) (.int j) = if -1000000 ≤ j ∧ j ≤ 1000000 ∧ x.length * j.toNat ≤ LN then some (.str (List.replicate j.toNat x).flatten) else none := rfl
theorem mulD_t : mulD (.tup xs) (.int j) = if xs ≠ [] ∧ 2 ≤ j ∧ j ≤ 1000 ∧ xs.length ≤ 1000 then some (.tup (List.replicate j.toNat xs).flatten) else none := rfl
theorem repD_l : repD (.lst xs) (.int j) = if -1000000 ≤ j ∧ j ≤ 1000000 ∧ xs.length * j.toNat ≤ LN then some (.lst (List.replicate j.toNat xs).flatten) else none := rfl
theorem fdivD_i : fdivD (.int i) (.int j) = if 0 < j ∧ j < 1073741824 then some (.int (i / j)) else none := rfl
theorem modD_i : modD (.int i) (.int j) = if 0 < j then some (.int (i % j)) else none := rfl
theorem pln_s {n : Nat} : pln n (.str x) = true := by cases n <;> rfl
theorem pln_i {n : Nat} : pln n (.int i) = true := by cases n <;> rfl
theorem pln_b {n : Nat} : pln n (.bl a) = true := by cases n <;> rfl
theorem pln_n {n : Nat} : pln n .non = true := by cases n <;> rfl
theorem eqD_s : eqD (.str x) (.str y) = some (.bl (decide (x = y))) := rfl
theorem eqD_i : eqD (.int i) (.int j) = some (.bl (decide (i = j))) := rfl
theorem eqD_b : eqD (.bl a) (.bl b) = some (.bl (a == b)) := rfl
theorem neD_s : neD (.str x) (.str y) = some (.bl (!decide (x = y))) := rfl
theorem neD_i : neD (.int i) (.int j) = some (.bl (!decide (i = j))) := rfl
theorem neD_b : neD (.bl a) (.bl b) = some (.bl (!(a == b))) := rfl
theorem eqD_l0 (h : plns 7 xs = true) : eqD (.lst xs) (.lst []) = some (.bl xs.isEmpty) := by
  unfold eqD
  rw [pln_lst, h]
  cases xs <;> rfl
theorem neD_l0 (h : plns 7 xs = true) : neD (.lst xs) (.lst []) = some (.bl (!xs.isEmpty)) := by
  unfold neD
  rw [pln_lst, h]
  cases xs <;> rfl
theorem ltD_i : ltD (.int i) (.int j) = some (.bl (decide (i < j))) := rfl
theorem gtD_i : gtD (.int i) (.int j) = some (.bl (decide (j < i))) := rfl
theorem leD_i : leD (.int i) (.int j) = some (.bl (decide (i ≤ j))) := rfl
theorem geD_i : geD (.int i) (.int j) = some (.bl (decide (j ≤ i))) := rfl
theorem isND_n : isND d .non = some (.bl (nonD d)) := rfl
theorem notND_n : notND d .non = some (.bl (!nonD d)) := rfl
theorem nonD_n : nonD .non = true := rfl
theorem nonD_s : nonD (.str x) = false := rfl
theorem nonD_i : nonD (.int i) = false := rfl
theorem nonD_b : nonD (.bl a) = false := rfl
theorem nonD_l : nonD (.lst xs) = false := rfl
theorem nonD_t : nonD (.tup xs) = false := rfl
theorem inD_s {c : Nat} : inD (.str [c]) (.str x) = some (.bl (decide (c ∈ x))) := rfl
theorem inD_l : inD d (.lst xs) = if plns 8 xs && pln 8 d then some (.bl (anyD d xs)) else none := rfl
theorem inD_t : inD d (.tup xs) = if plns 8 xs && pln 8 d then some (.bl (anyD d xs)) else none := rfl
theorem ninD_s {c : Nat} : ninD (.str [c]) (.str x) = some (.bl (!decide (c ∈ x))) := rfl
theorem ninD_l : ninD d (.lst xs) = if plns 8 xs && pln 8 d then some (.bl (!anyD d xs)) else none := rfl
theorem ninD_t : ninD d (.tup xs) = if plns 8 xs && pln 8 d then some (.bl (!anyD d xs)) else none := rfl
theorem ixD_l : ixD (.lst xs) (.int i) = atI xs i := rfl
theorem ixD_t : ixD (.tup xs) (.int i) = atI xs i := rfl
theorem ixD_s : ixD (.str x) (.int i) = if x.length ≤ LN then (atI x i).map fun c => .str [c] else none := rfl
theorem lenD_l : lenD [.lst xs] = if xs.length ≤ LN then some (.int xs.length) else none := rfl
theorem lenD_t : lenD [.tup xs] = if xs.length ≤ LN then some (.int xs.length) else none := rfl
theorem lenD_s : lenD [.str x] = if x.length ≤ LN then some (.int x.length) else none := rfl
theorem max2_i : Cut.max2 [.int i, .int j] = some (.int (if j > i then j else i)) := rfl
theorem min2_i : Cut.min2 [.int i, .int j] = some (.int (if j < i then j else i)) := rfl
theorem listL_l : listL [.lst xs] = some (.lst xs) := rfl
theorem listL_t : listL [.tup xs] = some (.lst xs) := rfl
theorem tupL_l : tupL [.lst xs] = some (.tup xs) := rfl
theorem tupL_t : tupL [.tup xs] = some (.tup xs) := rfl
theorem int1_i : int1 [.int i] = some (.int i) := rfl
theorem items_l : itemsOf (.lst xs) = some xs := rfl
theorem items_t : itemsOf (.tup xs) = some xs := rfl
theorem items_s : itemsOf (.str x) = some (x.map fun c => .str [c]) := rfl
theorem rng1_i : rng1 [.int j] = if big j = true then some (rangeD 0 j.toNat) else none := rfl
theorem rng2_i : rng2 [.int i, .int j] = if big i && big j then some (rangeD i (j - i).toNat) else none := rfl
theorem slD_s : slD (.str x) lo hi = if x.length ≤ LN then some (.str (cutL x lo hi)) else none := rfl
theorem slD_t : slD (.tup xs) lo hi = some (.tup (cutL xs lo hi)) := rfl
theorem slN_l : Cut.slN (.lst xs) lo hi = some (.lst (cutL xs lo hi)) := rfl
theorem isi_ss : isiD .str (.str x) = some (.bl true) := rfl
theorem isi_si : isiD .str (.int i) = some (.bl false) := rfl
theorem isi_sb : isiD .str (.bl a) = some (.bl false) := rfl
theorem isi_sl : isiD .str (.lst xs) = some (.bl false) := rfl
theorem isi_st : isiD .str (.tup xs) = some (.bl false) := rfl
theorem isi_sn : isiD .str .non = some (.bl false) := rfl
theorem isi_is : isiD .int (.str x) = some (.bl false) := rfl
theorem isi_ii : isiD .int (.int i) = some (.bl true) := rfl
theorem isi_ib : isiD .int (.bl a) = some (.bl true) := rfl
theorem isi_il : isiD .int (.lst xs) = some (.bl false) := rfl
theorem isi_it : isiD .int (.tup xs) = some (.bl false) := rfl
theorem isi_in : isiD .int .non = some (.bl false) := rfl
theorem isi_bs : isiD .bool (.str x) = some (.bl false) := rfl
theorem isi_bi : isiD .bool (.int i) = some (.bl false) := rfl
theorem isi_bb : isiD .bool (.bl a) = some (.bl true) := rfl
theorem isi_bl : isiD .bool (.lst xs) = some (.bl false) := rfl
theorem isi_bt : isiD .bool (.tup xs) = some (.bl false) := rfl
theorem isi_bn : isiD .bool .non = some (.bl false) := rfl
theorem isi_ls : isiD .list (.str x) = some (.bl false) := rfl
theorem isi_li : isiD .list (.int i) = some (.bl false) := rfl
theorem isi_lb : isiD .list (.bl a) = some (.bl false) := rfl
theorem isi_ll : isiD .list (.lst xs) = some (.bl true) := rfl
theorem isi_lt : isiD .list (.tup xs) = some (.bl false) := rfl
theorem isi_ln : isiD .list .non = some (.bl false) := rfl
theorem isi_ts : isiD .tuple (.str x) = some (.bl false) := rfl
theorem isi_ti : isiD .tuple (.int i) = some (.bl false) := rfl
theorem isi_tb : isiD .tuple (.bl a) = some (.bl false) := rfl
theorem isi_tl : isiD .tuple (.lst xs) = some (.bl false) := rfl
theorem isi_tt : isiD .tuple (.tup xs) = some (.bl true) := rfl
theorem isi_tn : isiD .tuple .non = some (.bl false) := rfl
def isi2D (t u : Ty) (d : D) : Option D := (tyN d).map fun _ => .bl (isTy t d || isTy u d)
theorem w_isi2' {Γ : Gam} {s : DS} {X : Xc → DS → Prop} {t u : Ty} {a : Ex} {P : D → DS → Prop} : (evE Γ (.isi2 t u a) s).wp P X = (evE Γ a s).wp (fun d s => (Rs.of (isi2D t u d) s).wp P X) X := w_isi2
theorem tl_s : isi2D .tuple .list (.str x) = some (.bl false) := rfl
theorem tl_i : isi2D .tuple .list (.int i) = some (.bl false) := rfl
theorem tl_b : isi2D .tuple .list (.bl a) = some (.bl false) := rfl
theorem tl_l : isi2D .tuple .list (.lst xs) = some (.bl true) := rfl
theorem tl_t : isi2D .tuple .list (.tup xs) = some (.bl true) := rfl
theorem tl_n : isi2D .tuple .list .non = some (.bl false) := rfl
end
theorem w_whl {Γ : Gam} {s : DS} {N : DS → Prop} {E : Rst → Prop} {fuel : Nat} {t : Ex} {b : Sx} : (evS Γ (.whl fuel t b) s).wp N E = (whileL (evT Γ t) (evB Γ b) fuel s).wp N E := rfl
/-- a while loop by an invariant and a measure -/
theorem wp_while {c : DS → Rs Bool} {b : DS → Rst} {N : DS → Prop} {E : Rst → Prop} (I : DS → Prop) (μ : DS → Nat)
    (st : ∀ s, I s → (c s).wp (fun k s' => (k = true → (b s').wp (fun s2 => I s2 ∧ μ s2 < μ s) (fun q => match q with | .bk s => N s | .ct s2 => I s2 ∧ μ s2 < μ s | q => E q)) ∧ (k = false → N s')) (fun x s => E (.exc x s))) :
    ∀ (fuel : Nat) (s : DS), I s → μ s < fuel → (whileL c b fuel s).wp N E
  | 0, s, _, h => absurd h (Nat.not_lt_zero _)
  | n + 1, s, hI, h => by
    have h1 := st s hI
    unfold whileL
    rw [wp_then]
    refine h1.imp fun k s' ⟨ht, hf⟩ => ?_
    cases k with
    | false => rw [if_neg Bool.false_ne_true]; exact hf rfl
    | true =>
      rw [if_pos rfl]
      have h2 := ht rfl
      cases z : b s' with
      | nx s2 => rw [z] at h2; exact wp_while I μ st n s2 h2.1 (by have := h2.2; omega)
      | ct s2 => rw [z] at h2; exact wp_while I μ st n s2 h2.1 (by have := h2.2; omega)
      | bk s2 => rw [z] at h2; exact h2
      | rt d s2 => rw [z] at h2; exact h2
      | exc x s2 => rw [z] at h2; exact h2
      | bad => rw [z] at h2; exact h2.elim
/-- the own list at a slot -/
def ownL : Option (Option DV) → Option (List D)
  | some (some (.own (.lst xs))) => some xs
  | _ => none
theorem ownL_o {xs : List D} : ownL (some (some (.own (.lst xs)))) = some xs := rfl
theorem ownL_of {o : Option (Option DV)} {xs : List D} (h : ownL o = some xs) : o = some (some (.own (.lst xs))) := by
  unfold ownL at h
  split at h
  · cases h; rfl
  · cases h
theorem w_app2 {Γ : Gam} {s : DS} {N : DS → Prop} {E : Rst → Prop} {i : Nat} {a : Ex} : (evS Γ (.app i a) s).wp N E = ∃ xs0, ownL s.env[i]? = some xs0 ∧ (evE Γ a s).wp (fun e s1 => ∃ xs, ownL s1.env[i]? = some xs ∧ xs.length < LN ∧ N { s1 with env := s1.env.set i (some (.own (.lst (xs ++ [e])))) }) (fun x s => E (.exc x s)) := by
  show (appS i (evE Γ a) s).wp N E = _
  unfold appS
  split
  · rename_i xs0 e0
    rw [wp_then, e0]
    simp only [ownL_o, Option.some.injEq, exists_eq_left']
    congr 1; funext e s1
    split
    · rename_i xs1 e1
      rw [e1]
      simp only [ownL_o, Option.some.injEq, exists_eq_left']
      by_cases h : xs1.length < LN
      · rw [if_pos h]; simp [h, wp_nx]
      · rw [if_neg h]; simp [h, wp_no]
    · rename_i hn
      apply propext
      constructor
      · exact fun z => z.elim
      · rintro ⟨xs, h, _⟩
        exact absurd (ownL_of h) (hn xs)
  · rename_i hn
    apply propext
    constructor
    · exact fun z => z.elim
    · rintro ⟨xs, h, _⟩
      exact absurd (ownL_of h) (hn xs)
/-! #### the further forms -/
section
variable {Γ : Gam} {s : DS} {X : Xc → DS → Prop} {N : DS → Prop} {E : Rst → Prop}
theorem w_fld {f : Fl} {a es : Ex} {P : D → DS → Prop} : (evE Γ (.ext (.fld f) a es) s).wp P X = (evE Γ a s).wp (fun d s => (Rs.of (f.f d) s).wp P X) X := by
  show (fldS f (evE Γ a) s).wp P X = _
  unfold fldS
  rw [wp_bind]
theorem w_prop {y : Str} {f : Fl} {a es : Ex} {P : D → DS → Prop} : (evE Γ (.ext (.prop y f) a es) s).wp P X = (evE Γ a s).wp (fun d s => (Rs.of (f.f d) s).wp P X) X := by
  show (fldS f (evE Γ a) s).wp P X = _
  unfold fldS
  rw [wp_bind]
theorem w_mt {m : Mt} {a es : Ex} {P : D → DS → Prop} : (evE Γ (.ext (.mt m) a es) s).wp P X = (evE Γ a s).wp (fun d s => m.rc.is d = true ∧ (evA Γ es s).wp (fun ds s => (Rs.of (m.f d ds) s).wp P X) X) X := by
  show (calW m.rc m.f (evE Γ a) (evA Γ es) s).wp P X = _
  unfold calW
  rw [wp_bind]
  congr 1; funext d s
  by_cases h : m.rc.is d = true
  · rw [if_pos h, wp_bind]; simp [h]
  · rw [if_neg h]; simp [h, wp_bad]
theorem wp_call0 {j n : Nat} {f : PF} {a es : Ex} {d : D} {P : D → DS → Prop} (hj : Γ.pf j = (f, n)) (hn : n = 0) (hf : f [] = .ok d) (h : P d s) : (evE Γ (.ext (.call0 j) a es) s).wp P X := by
  show (callP (Γ.pf j).1 (Γ.pf j).2 argsNil s).wp P X
  rw [hj]
  show (if ([] : List D).length = n then (match f [] with
    | .ok d => .ok d s
    | .exc x => .exc x s
    | .bad => .bad) else .bad : Rs D).wp P X
  rw [if_pos (show ([] : List D).length = n from hn.symm), hf]
  exact h
theorem w_lrg {a es : Ex} {P : D → DS → Prop} : (evE Γ (.ext .lrg a es) s).wp P X = (evA Γ es s).wp (fun ds s => (Rs.of (lrgD ds) s).wp P X) X := by
  show ((evA Γ es s).bind _).wp P X = _
  rw [wp_bind]
theorem w_ltx {a es : Ex} {P : D → DS → Prop} : (evE Γ (.ext .ltx a es) s).wp P X = (evA Γ es s).wp (fun ds s => (Rs.of (ltxD ds) s).wp P X) X := by
  show ((evA Γ es s).bind _).wp P X = _
  rw [wp_bind]
theorem w_srt {a es : Ex} {P : D → DS → Prop} : (evE Γ (.ext .srt a es) s).wp P X = (evA Γ es s).wp (fun ds s => (Rs.of (srtD ds) s).wp P X) X := by
  show ((evA Γ es s).bind _).wp P X = _
  rw [wp_bind]
theorem w_enu {a es : Ex} {P : List D → DS → Prop} : (evI Γ (.iex .enu a es) s).wp P X = (evA Γ es s).wp (fun ds s => (Rs.of (enuArgs ds) s).wp P X) X := by
  show (rngI enuArgs (evA Γ es) s).wp P X = _
  unfold rngI
  rw [wp_bind]
theorem wp_mk {j n : Nat} {f : PF} {a es : Ex} {P : D → DS → Prop} (hj : Γ.mf j = (f, n)) (hg : (evA Γ es s).wp (fun ds s1 => ds.length = n ∧ ∃ d, f ds = .ok d ∧ P d s1) X) : (evE Γ (.ext (.mk j) a es) s).wp P X := by
  show (callP (Γ.mf j).1 (Γ.mf j).2 (evA Γ es) s).wp P X
  rw [hj]
  unfold callP
  simp only [wp_bind]
  refine hg.imp fun ds s1 ⟨e, d, h1, h2⟩ => ?_
  rw [if_pos e, h1]
  exact h2
theorem wp_callSB {j i n : Nat} {f : SF} {a es : Ex} {P : D → DS → Prop} (hj : Γ.sf j = (f, n)) (he : s.env[i]? = some (some .src))
    (hg : (evA Γ es s).wp (fun ds s1 => ds.length = n ∧ (f ds s1.src).wp (fun d sr => flat d = true ∧ P d { s1 with src := sr }) (fun _ _ => False)) X) : (evE Γ (.ext (.callSB j i) a es) s).wp P X := by
  show (callSB i (Γ.sf j).1 (Γ.sf j).2 (evA Γ es) s).wp P X
  rw [hj]
  unfold callSB
  rw [he]
  simp only [wp_bind]
  refine hg.imp fun ds s1 ⟨e, h⟩ => ?_
  rw [if_pos e]
  cases z : f ds s1.src with
  | ok d sr =>
    rw [z] at h
    obtain ⟨h1, h2⟩ := h
    dsimp only
    rw [if_pos h1]; exact h2
  | exc x sr => rw [z] at h; exact h.elim
  | bad => rw [z] at h; exact h.elim
theorem wp_callB {j n : Nat} {f : PF} {a es : Ex} {P : D → DS → Prop} (hj : Γ.pf j = (f, n)) (hg : (evA Γ es s).wp (fun ds s1 => ds.length = n ∧ ∃ d, f ds = .ok d ∧ flat d = true ∧ P d s1) X) : (evE Γ (.ext (.callB j) a es) s).wp P X := by
  show (callPB (Γ.pf j).1 (Γ.pf j).2 (evA Γ es) s).wp P X
  rw [hj]
  unfold callPB
  simp only [wp_bind]
  refine hg.imp fun ds s1 ⟨e, d, h1, h3, h2⟩ => ?_
  rw [if_pos e, h1]
  dsimp only
  rw [if_pos h3]; exact h2
theorem Rst.wp.imp2 {r : Rst} {N' : DS → Prop} {E' : Rst → Prop} (h : r.wp N E) (q : ∀ s, N s → N' s) (q2 : ∀ r, E r → E' r) : r.wp N' E' := by
  cases r <;> simp [Rst.wp] at h ⊢ <;> first | exact q _ h | exact q2 _ h
/-- a loop that looks for something and hands it back -/
theorem wp_find {α : Type} {t : D → DS → Option DS} {b : DS → Rst} (k : α → D) (p : α → Option D) (I : DS → Prop) : ∀ (xs : List α) (s : DS), I s →
    (∀ x, x ∈ xs → ∀ s, I s → ∃ s1, t (k x) s = some s1 ∧ (b s1).wp (fun s => p x = none ∧ I s) (fun r => ∃ d s, p x = some d ∧ r = .rt d s)) →
    (forL t b (xs.map k) s).wp (fun s => xs.findSome? p = none ∧ I s) (fun r => ∃ d s, xs.findSome? p = some d ∧ r = .rt d s)
  | [], s, h, _ => ⟨rfl, h⟩
  | x :: r, s, h, st => by
    obtain ⟨s1, e1, h1⟩ := st x List.mem_cons_self s h
    rw [List.map_cons]
    unfold forL
    rw [e1]
    cases z : b s1 with
    | nx s2 =>
      rw [z] at h1
      obtain ⟨h2, h3⟩ := h1
      simp only [z]
      refine (wp_find k p I r s2 h3 fun y hy => st y (List.mem_cons_of_mem _ hy)).imp2 (fun s q => ?_) (fun r q => ?_)
      · rw [List.findSome?_cons, h2]; exact q
      · rw [List.findSome?_cons, h2]; exact q
    | rt d s2 =>
      rw [z] at h1
      obtain ⟨d', s', h2, h3⟩ := h1
      cases h3
      simp only [z]
      exact ⟨d, s2, by rw [List.findSome?_cons, h2], rfl⟩
    | ct s2 => rw [z] at h1; obtain ⟨_, _, _, h3⟩ := h1; cases h3
    | bk s2 => rw [z] at h1; obtain ⟨_, _, _, h3⟩ := h1; cases h3
    | exc d s2 => rw [z] at h1; obtain ⟨_, _, _, h3⟩ := h1; cases h3
    | bad => rw [z] at h1; exact h1.elim
end
/-! #### comprehensions -/
theorem lcL_ok {α : Type} {own : List Nat} {t : D → DS → Option DS} {c : DS → Rs Bool} {f : DS → Rs D} (base : DS) (k : α → D) (p : α → Bool) (g : α → D) : ∀ (xs : List α) (acc : List D) (s : DS), wipeD s own = base → acc.length + xs.length ≤ LN →
    (∀ x, x ∈ xs → ∃ s1, t (k x) base = some s1 ∧ (c s1).wp (fun b s2 => b = p x ∧ (b = true → (f s2).wp (fun z s3 => z = g x ∧ wipeD s3 own = base) fun _ _ => False) ∧ (b = false → wipeD s2 own = base)) fun _ _ => False) →
    ∃ s', wipeD s' own = base ∧ lcL own t c f (xs.map k) acc s = .ok (acc ++ (xs.filter p).map g) s'
  | [], acc, s, h, _, _ => ⟨s, h, by simp [lcL]⟩
  | x :: r, acc, s, h, hl, st => by
    obtain ⟨s1, e1, e2⟩ := st x List.mem_cons_self
    rw [List.map_cons]
    unfold lcL
    rw [h, e1]
    dsimp only
    rw [List.length_cons] at hl
    cases z : c s1 with
    | exc _ _ => rw [z] at e2; exact e2.elim
    | bad => rw [z] at e2; exact e2.elim
    | ok b s2 =>
      rw [z] at e2
      simp only [wp_ok] at e2
      obtain ⟨e2, h3, h4⟩ := e2
      subst e2
      simp only [noX, Rs.bind]
      cases hp : p x with
      | true =>
        have h3 := h3 hp
        simp only [if_true]
        cases z3 : f s2 with
        | exc _ _ => rw [z3] at h3; exact h3.elim
        | bad => rw [z3] at h3; exact h3.elim
        | ok y s3 =>
          rw [z3] at h3
          obtain ⟨rfl, h5⟩ := h3
          simp only [noX, Rs.bind]
          rw [if_pos (by omega)]
          obtain ⟨s', w, e⟩ := lcL_ok base k p g r (acc ++ [g x]) s3 h5 (by simp; omega) (fun d hd => st d (List.mem_cons_of_mem _ hd))
          exact ⟨s', w, by rw [e]; simp [hp]⟩
      | false =>
        obtain ⟨s', w, e⟩ := lcL_ok base k p g r acc s2 (h4 hp) (by omega) (fun d hd => st d (List.mem_cons_of_mem _ hd))
        exact ⟨s', w, by simp [e, hp]⟩
theorem wipe_len (s : DS) : ∀ own : List Nat, (wipeD s own).env.length = s.env.length
  | [] => rfl
  | i :: r => by
    have := wipe_len s r
    unfold wipeD at this ⊢
    simp [List.foldr] at this ⊢
    exact this
theorem wipe_get (s : DS) (i : Nat) : ∀ own : List Nat, (wipeD s own).env[i]? = if i ∈ own then (if i < s.env.length then some none else none) else s.env[i]?
  | [] => by simp [wipeD]
  | j :: r => by
    have := wipe_get s i r
    have hl := wipe_len s r
    unfold wipeD at this hl ⊢
    simp only [List.foldr] at this hl ⊢
    rw [List.getElem?_set]
    by_cases e : j = i
    · subst e
      simp [hl]
    · rw [if_neg e, this]
      by_cases m : i ∈ r
      · simp [m]
      · simp [m, Ne.symm e]
theorem rest_of_wipe {own : List Nat} {s s' : DS} (h : wipeD s' own = wipeD s own) : restD own s s' = s := by
  have hl : s'.env.length = s.env.length := by rw [← wipe_len s' own, h, wipe_len]
  have hs : s'.src = s.src := by
    have := congrArg DS.src h
    exact this
  obtain ⟨env, src⟩ := s
  obtain ⟨env', src'⟩ := s'
  dsimp only at hl hs
  subst hs
  unfold restD restL
  dsimp only
  congr 1
  apply List.ext_getElem?
  intro i
  rw [List.getElem?_map]
  by_cases hi : i < env.length
  · rw [List.getElem?_range (by omega)]
    simp only [Option.map_some]
    split
    · rw [List.getElem?_eq_getElem hi]; rfl
    · rename_i m
      have e1 := wipe_get ⟨env', src'⟩ i own
      have e2 := wipe_get ⟨env, src'⟩ i own
      rw [h, e2, if_neg m, if_neg m] at e1
      dsimp only at e1
      rw [← e1, List.getElem?_eq_getElem hi]; rfl
  · rw [List.getElem?_eq_none (by simp; omega), List.getElem?_eq_none (by omega)]; rfl
/-- a comprehension that draws nothing -/
theorem wp_lcf {α : Type} {Γ : Gam} {own : List (Str × Nat)} {tg : Tg} {it c e : Ex} {s : DS} {P : D → DS → Prop} {X : Xc → DS → Prop} (k : α → D) (p : α → Bool) (g : α → D)
    (h : (evI Γ it s).wp (fun items s1 => calmD (own.map (·.2)) s1 = true ∧ ∃ xs : List α, items = xs.map k ∧ xs.length ≤ LN ∧ (∀ x, x ∈ xs → ∃ s4, tg.t (k x) (wipeD s1 (own.map (·.2))) = some s4 ∧
      (evT Γ c s4).wp (fun b s2 => b = p x ∧ (b = true → (evE Γ e s2).wp (fun z s3 => z = g x ∧ wipeD s3 (own.map (·.2)) = wipeD s1 (own.map (·.2))) fun _ _ => False) ∧ (b = false → wipeD s2 (own.map (·.2)) = wipeD s1 (own.map (·.2)))) fun _ _ => False) ∧
      P (.lst ((xs.filter p).map g)) s1) X) : (evE Γ (.lc own tg it c e) s).wp P X := by
  show (lcS (own.map (·.2)) (evI Γ it) tg.t (evT Γ c) (evE Γ e) s).wp P X
  unfold lcS
  rw [wp_bind]
  refine h.imp fun items s1 ⟨hc, xs, e1, hl, st, q⟩ => ?_
  rw [if_pos hc]
  obtain ⟨s', w, e2⟩ := lcL_ok (wipeD s1 (own.map (·.2))) k p g xs [] s1 rfl (by simpa using hl) st
  rw [e1, e2]
  simp only [noX, Rs.bind, List.nil_append]
  rw [rest_of_wipe w]
  exact q
/-- .. without a test -/
theorem wp_lcm {α : Type} {Γ : Gam} {own : List (Str × Nat)} {tg : Tg} {it e : Ex} {s : DS} {P : D → DS → Prop} {X : Xc → DS → Prop} (k : α → D) (g : α → D)
    (h : (evI Γ it s).wp (fun items s1 => calmD (own.map (·.2)) s1 = true ∧ ∃ xs : List α, items = xs.map k ∧ xs.length ≤ LN ∧ (∀ x, x ∈ xs → ∃ s4, tg.t (k x) (wipeD s1 (own.map (·.2))) = some s4 ∧
      (evE Γ e s4).wp (fun z s3 => z = g x ∧ wipeD s3 (own.map (·.2)) = wipeD s1 (own.map (·.2))) fun _ _ => False) ∧
      P (.lst (xs.map g)) s1) X) : (evE Γ (.lc own tg it .tyes e) s).wp P X := by
  refine wp_lcf k (fun _ => true) g (h.imp fun items s1 ⟨hc, xs, e1, hl, st, q⟩ => ⟨hc, xs, e1, hl, fun x hx => ?_, ?_⟩)
  · obtain ⟨s4, e4, h4⟩ := st x hx
    exact ⟨s4, e4, rfl, fun _ => h4, fun z => by cases z⟩
  · rw [List.filter_eq_self.mpr (fun _ _ => rfl)]; exact q
end Cut
namespace Cut
open PySem PySem.Spec L2
open PyProof.Rows hiding St

/-! ### texts: order, least, cuts, turns -/
def wlt (a b : Wd) : Bool := PyProof.Rows.lexLt PyProof.Rows.itemOrd [.inr a] [.inr b]
theorem dlt_str (a b : Wd) : dlt (.str a) (.str b) = wlt a b := by
  unfold dlt wlt PySem.W.dataLt
  simp [toPy, PySem.W.keyToks, S_cps]
theorem wlt_irrefl (a : Wd) : wlt a a = false := PyProof.Rows.lex_irrefl (O := PyProof.Rows.itemOrd) _
theorem wlt_trans {a b c : Wd} (h : wlt a b = true) (h' : wlt b c = true) : wlt a c = true := PyProof.Rows.lex_trans (O := PyProof.Rows.itemOrd) _ _ _ h h'
theorem wlt_total {a b : Wd} (h : wlt a b = false) (h' : wlt b a = false) : a = b := by
  have := PyProof.Rows.lex_total (O := PyProof.Rows.itemOrd) _ _ h h'
  simpa using this
def minW (x : Wd) (xs : List Wd) : Wd := xs.foldl (fun a y => if wlt y a then y else a) x
theorem minF_str (x : Wd) (xs : List Wd) : minF (.str x) (xs.map .str) = .str (minW x xs) := by
  unfold minF minW
  induction xs generalizing x with
  | nil => rfl
  | cons y r ih =>
    simp only [List.map_cons, List.foldl_cons, dlt_str]
    split <;> exact ih _
theorem minW_mem (x : Wd) (xs : List Wd) : minW x xs ∈ x :: xs := by
  unfold minW
  induction xs generalizing x with
  | nil => simp
  | cons y r ih =>
    simp only [List.foldl_cons]
    split
    · have := ih y; simp at this ⊢; rcases this with h | h <;> simp [h]
    · have := ih x; simp at this ⊢; rcases this with h | h <;> simp [h]
theorem wlt_neg {a b c : Wd} (h : wlt a b = false) (h' : wlt b c = false) : wlt a c = false := by
  cases e : wlt a c with
  | false => rfl
  | true =>
    by_cases q : b = c
    · subst q; rw [e] at h; exact h
    · cases e2 : wlt c b with
      | true => rw [wlt_trans e e2] at h; exact h
      | false => exact absurd (wlt_total h' e2) q
theorem minW_le (x : Wd) (xs : List Wd) : ∀ y, y ∈ x :: xs → wlt y (minW x xs) = false := by
  unfold minW
  induction xs generalizing x with
  | nil => intro y hy; simp at hy; subst hy; exact wlt_irrefl _
  | cons z r ih =>
    intro y hy
    simp only [List.foldl_cons]
    have hm : ∀ a b : Wd, wlt a b = false ∨ wlt b a = false := fun a b => by
      cases e : wlt a b
      · exact .inl rfl
      · cases e' : wlt b a
        · exact .inr rfl
        · have := wlt_trans e e'; rw [wlt_irrefl] at this; cases this
    split
    · rename_i h
      simp only [List.mem_cons] at hy
      rcases hy with rfl | rfl | hy
      · refine wlt_neg ?_ (ih z z List.mem_cons_self)
        rcases hm y z with q | q
        · exact q
        · rw [h] at q; cases q
      · exact ih y y List.mem_cons_self
      · exact ih z y (List.mem_cons_of_mem _ hy)
    · rename_i h
      simp only [List.mem_cons] at hy
      rcases hy with rfl | rfl | hy
      · exact ih y y List.mem_cons_self
      · exact wlt_neg (by simpa using h) (ih x x List.mem_cons_self)
      · exact ih x y (List.mem_cons_of_mem _ hy)
theorem minW_eq {x y : Wd} {xs ys : List Wd} (h : ∀ z, z ∈ x :: xs ↔ z ∈ y :: ys) : minW x xs = minW y ys :=
  wlt_total (minW_le y ys _ ((h _).mp (minW_mem x xs))) (minW_le x xs _ ((h _).mpr (minW_mem y ys)))
theorem plns_str (n : Nat) (ws : List Wd) : plns n (ws.map .str) = true := by
  rw [plns_all]; simp [pln]
theorem likes_str (ws : List Wd) : likes (ws.map .str) = true := by
  unfold likes
  simp [solid, toPy, PySem.W.alike]
theorem minL_str (x : Wd) (xs : List Wd) : minL [.lst ((x :: xs).map .str)] = some (.str (minW x xs)) := by
  have h1 := plns_str 8 (x :: xs)
  have h2 := likes_str (x :: xs)
  simp only [List.map_cons] at h1 h2 ⊢
  unfold minL
  dsimp only
  rw [h1, h2, minF_str]; rfl

theorem cut_from {α : Type} (w : List α) {i : Int} (h : 0 ≤ i) : cutL w (some i) none = w.drop i.toNat := by
  obtain ⟨n, rfl⟩ := Int.eq_ofNat_of_zero_le h
  unfold cutL
  rw [show HT.sIx w.length 0 (some (n : Int)) = min n w.length from HT.sIx_nat w.length 0 n, HT.sIx_none]
  simp only [Int.toNat_natCast]
  by_cases q : n ≤ w.length
  · rw [Nat.min_eq_left q, List.take_of_length_le (by simp)]
  · rw [Nat.min_eq_right (by omega), List.drop_of_length_le (by omega : w.length ≤ n), List.drop_of_length_le (Nat.le_refl _)]; simp
theorem cut_to {α : Type} (w : List α) {i : Int} (h : 0 ≤ i) : cutL w none (some i) = w.take i.toNat := by
  obtain ⟨n, rfl⟩ := Int.eq_ofNat_of_zero_le h
  unfold cutL
  rw [show HT.sIx w.length w.length (some (n : Int)) = min n w.length from HT.sIx_nat w.length _ n, HT.sIx_none]
  simp only [Int.toNat_natCast, List.drop_zero, Nat.sub_zero]
  by_cases q : n ≤ w.length
  · rw [Nat.min_eq_left q]
  · rw [Nat.min_eq_right (by omega), List.take_of_length_le (Nat.le_refl _), List.take_of_length_le (by omega)]
theorem cut_mid {α : Type} (w : List α) {i j : Int} (h : 0 ≤ i) (h' : 0 ≤ j) : cutL w (some i) (some j) = (w.drop i.toNat).take (j.toNat - i.toNat) := by
  obtain ⟨n, rfl⟩ := Int.eq_ofNat_of_zero_le h
  obtain ⟨m, rfl⟩ := Int.eq_ofNat_of_zero_le h'
  unfold cutL
  rw [show HT.sIx w.length 0 (some (n : Int)) = min n w.length from HT.sIx_nat w.length 0 n, show HT.sIx w.length w.length (some (m : Int)) = min m w.length from HT.sIx_nat w.length _ m]
  simp only [Int.toNat_natCast]
  by_cases q : n ≤ w.length
  · rw [Nat.min_eq_left q]
    by_cases q2 : m ≤ w.length
    · rw [Nat.min_eq_left q2]
    · rw [Nat.min_eq_right (by omega), List.take_of_length_le (by simp), List.take_of_length_le (by simp; omega)]
  · rw [Nat.min_eq_right (by omega : w.length ≤ n), List.drop_of_length_le (by omega : w.length ≤ n), List.drop_of_length_le (Nat.le_refl _)]; simp
def rot (w : Wd) (n : Nat) : Wd := w.drop n ++ w.take n
theorem rot_len (w : Wd) (n : Nat) : (rot w n).length = w.length := by unfold rot; simp; omega
theorem rot_mem {w : Wd} {n : Nat} {c : Nat} : c ∈ rot w n ↔ c ∈ w := by
  unfold rot
  rw [List.mem_append, Or.comm, ← List.mem_append, List.take_append_drop]
theorem rot_get {w : Wd} {n i : Nat} (hn : n ≤ w.length) (hi : i < w.length) : (rot w n)[i]? = w[(i + n) % w.length]? := by
  unfold rot
  by_cases h : i < w.length - n
  · rw [List.getElem?_append_left (by simpa using h), List.getElem?_drop, Nat.mod_eq_of_lt (by omega), Nat.add_comm]
  · have e : (i + n) % w.length = i + n - w.length := by
      rw [Nat.mod_eq_sub_mod (by omega), Nat.mod_eq_of_lt (by omega)]
    rw [List.getElem?_append_right (by simp; omega), List.getElem?_take, e, if_pos (by simp; omega)]
    congr 1
    simp; omega
/-- a turn of a turn -/
theorem rot_rot {w : Wd} {n m : Nat} (hn : n ≤ w.length) (hm : m ≤ w.length) : rot (rot w n) m = rot w ((n + m) % w.length) := by
  apply List.ext_getElem?
  intro i
  by_cases hi : i < w.length
  · have hw : 0 < w.length := by omega
    rw [rot_get (by rw [rot_len]; exact hm) (by rw [rot_len]; exact hi), rot_len, rot_get hn (Nat.mod_lt _ hw), rot_get (Nat.le_of_lt (Nat.mod_lt _ hw)) hi]
    congr 1
    rw [Nat.mod_add_mod, Nat.add_mod_mod]
    congr 1; omega
  · rw [List.getElem?_eq_none (by rw [rot_len, rot_len]; omega), List.getElem?_eq_none (by rw [rot_len]; omega)]
theorem rot_zero (w : Wd) : rot w 0 = w := by simp [rot]
theorem rot_full (w : Wd) : rot w w.length = w := by simp [rot]
def turns (w : Wd) : List Wd := (List.range w.length).map (rot w)
theorem mem_turns {w z : Wd} : z ∈ turns w ↔ ∃ i, i < w.length ∧ rot w i = z := by simp [turns]
theorem mem_turns_rot {w z : Wd} {n : Nat} (hn : n ≤ w.length) (hw : w ≠ []) : z ∈ turns (rot w n) ↔ z ∈ turns w := by
  have h0 : 0 < w.length := List.length_pos_iff.mpr hw
  rw [mem_turns, mem_turns, rot_len]
  constructor
  · rintro ⟨i, hi, rfl⟩
    exact ⟨(n + i) % w.length, Nat.mod_lt _ h0, by rw [rot_rot hn (by omega)]⟩
  · rintro ⟨i, hi, rfl⟩
    refine ⟨(i + (w.length - n)) % w.length, Nat.mod_lt _ h0, ?_⟩
    rw [rot_rot hn (Nat.le_of_lt (Nat.mod_lt _ h0)), Nat.add_mod_mod, show n + (i + (w.length - n)) = i + w.length by omega, Nat.add_mod_right, Nat.mod_eq_of_lt hi]
/-- the least turn -/
def leastT (w : Wd) : Wd := minW (rot w 0) ((List.range (w.length - 1)).map fun i => rot w (i + 1))
theorem turns_cons {w : Wd} (hw : w ≠ []) : turns w = rot w 0 :: (List.range (w.length - 1)).map fun i => rot w (i + 1) := by
  have h0 : 0 < w.length := List.length_pos_iff.mpr hw
  unfold turns
  obtain ⟨n, hn⟩ : ∃ n, w.length = n + 1 := ⟨w.length - 1, by omega⟩
  rw [hn, List.range_succ_eq_map]
  simp
theorem minL_turns {w : Wd} (hw : w ≠ []) : minL [.lst ((turns w).map .str)] = some (.str (leastT w)) := by
  rw [turns_cons hw, minL_str]; rfl
theorem leastT_rot {w : Wd} {n : Nat} (hn : n ≤ w.length) (hw : w ≠ []) : leastT (rot w n) = leastT w := by
  have hw' : rot w n ≠ [] := fun e => by
    have := rot_len w n
    rw [e] at this
    exact hw (List.eq_nil_of_length_eq_zero this.symm)
  refine minW_eq fun z => ?_
  rw [← turns_cons hw, ← turns_cons hw', mem_turns_rot hn hw]
end Cut
namespace Cut
open PySem PySem.Spec L2
open PyProof.Rows hiding St
theorem rangeD_len (lo : Int) (n : Nat) : (rangeD lo n).length = n := by simp [rangeD]
theorem big_le {i : Int} (h0 : -1000000000 ≤ i) (h1 : i ≤ 1000000000) : big i = true := by
  unfold big
  rw [Bool.and_eq_true, decide_eq_true_eq, decide_eq_true_eq]
  have : (2 : Int) ^ 62 = 4611686018427387904 := by decide
  rw [this]
  constructor <;> omega
theorem big2 {i j : Int} (h : big i = true) (h' : big j = true) : (big i && big j) = true := by rw [h, h']; rfl
theorem LN_le {n : Nat} (h : n ≤ 16777216) : n ≤ LN := h
theorem LN_lt {n : Nat} (h : n < 16777216) : n < LN := h
/-- a text's length at a slot; a list's -/
def wlenAt : Option (Option DV) → Nat
  | some (some (.im (.str w))) => w.length
  | _ => 0
def llenAt : Option (Option DV) → Nat
  | some (some (.im (.lst w))) => w.length
  | some (some (.own (.lst w))) => w.length
  | _ => 0
def intAt : Option (Option DV) → Int
  | some (some (.im (.int w))) => w
  | _ => 0
theorem abcd_at {v : Int} (h0 : 0 ≤ v) (h1 : v < 4) : (if [97, 98, 99, 100].length ≤ LN then (atI [97, 98, 99, 100] v).map fun c => D.str [c] else none) = some (.str [97 + v.toNat]) := by
  rw [if_pos (by decide)]
  obtain ⟨n, rfl⟩ := Int.eq_ofNat_of_zero_le h0
  match n, h1 with
  | 0, _ => rfl
  | 1, _ => rfl
  | 2, _ => rfl
  | 3, _ => rfl
  | n + 4, h => omega
theorem ix_abcd {v : Int} (h0 : 0 ≤ v) (h1 : v < 4) : ixD (.str [97, 98, 99, 100]) (.int v) = some (.str [97 + v.toNat]) := abcd_at h0 h1
def isL (n : Nat) (w : Wd) : Prop := ∀ c, c ∈ w → 97 ≤ c ∧ c < 97 + n
theorem mem_abcd {c : Nat} : c ∈ [97, 98, 99, 100] ↔ 97 ≤ c ∧ c < 101 := by simp; omega
theorem rangeD_mem {lo : Int} {n : Nat} {d : D} (h : d ∈ rangeD lo n) : ∃ k : Nat, k < n ∧ d = .int (lo + k) := by
  unfold rangeD at h
  simp at h
  obtain ⟨k, hk, e⟩ := h
  exact ⟨k, hk, e.symm⟩
theorem bools_map {α : Type} (f : α → Bool) (xs : List α) : boolsOf (xs.map fun x => .bl (f x)) = some (xs.map f) := by
  induction xs with
  | nil => rfl
  | cons x r ih => simp [boolsOf, ih]
theorem allL_map {α : Type} (f : α → Bool) (xs : List α) : allL [.lst (xs.map fun x => .bl (f x))] = some (.bl (xs.all f)) := by
  unfold allL
  dsimp only
  rw [bools_map]
  simp [List.all_map, Function.comp_def]
theorem anyL_map {α : Type} (f : α → Bool) (xs : List α) : anyL [.lst (xs.map fun x => .bl (f x))] = some (.bl (xs.any f)) := by
  unfold anyL
  dsimp only
  rw [bools_map]
  simp [List.any_map, Function.comp_def]
end Cut
namespace Cut

/-! ### the rule of cutting: odd pieces, by length and then as strings -/
def llt (a b : Wd) : Bool := decide (a.length < b.length) || (decide (a.length = b.length) && wlt a b)
theorem llt_irrefl (a : Wd) : llt a a = false := by simp [llt, wlt_irrefl]
theorem llt_len {a b : Wd} (h : a.length < b.length) : llt a b = true := by simp [llt, h]
theorem llt_le {a b : Wd} (h : llt a b = true) : a.length ≤ b.length := by
  simp [llt] at h; omega
theorem llt_trans {a b c : Wd} (h : llt a b = true) (h' : llt b c = true) : llt a c = true := by
  simp [llt] at h h' ⊢
  rcases h with h | ⟨h, h1⟩ <;> rcases h' with h' | ⟨h', h1'⟩
  · left; omega
  · left; omega
  · left; omega
  · right; exact ⟨by omega, wlt_trans h1 h1'⟩
theorem llt_total {a b : Wd} (h : llt a b = false) (h' : llt b a = false) : a = b := by
  simp [llt] at h h'
  have e : a.length = b.length := by omega
  exact wlt_total (h.2 e) (h'.2 e.symm)
/-- not greater -/
def lle (a b : Wd) : Prop := llt b a = false
theorem lle_refl (a : Wd) : lle a a := llt_irrefl a
theorem lle_of_lt {a b : Wd} (h : llt a b = true) : lle a b := by
  unfold lle
  cases q : llt b a with
  | false => rfl
  | true => have := llt_trans h q; rw [llt_irrefl] at this; cases this
theorem lle_trans {a b c : Wd} (h : lle a b) (h' : lle b c) : lle a c := by
  unfold lle at *
  cases q : llt c a with
  | false => rfl
  | true =>
    cases q2 : llt a b with
    | true => rw [llt_trans q q2] at h'; cases h'
    | false => rw [llt_total q2 h] at q; rw [q] at h'; cases h'
theorem lle_len {a b : Wd} (h : a.length < b.length) : lle a b := lle_of_lt (llt_len h)

/-- a piece takes odd pieces in from the right: two at a time; alone it stays even -/
def go (c : Wd) : List Wd → List Wd → List Wd × List Wd
  | [], E => ([c], E)
  | [h], E => if llt h c = true then ([], (c ++ h) :: E) else ([c, h], E)
  | h :: h2 :: hs, E => if llt h c = true then go (c ++ h ++ h2) hs E else (c :: h :: h2 :: hs, E)
def UF : Wd → List Wd × List Wd
  | [] => ([], [])
  | l :: t => go [l] (UF t).1 (UF t).2
/-- an odd piece by itself -/
def Sgl (w : Wd) : Prop := UF w = ([w], [])

theorem go_ev : ∀ (c : Wd) (hs E : List Wd), (go c hs E).2 = [] → E = []
  | c, [], E, h => h
  | c, [x], E, h => by
    unfold go at h
    split at h
    · cases h
    · exact h
  | c, x :: y :: hs, E, h => by
    unfold go at h
    split at h
    · exact go_ev _ hs E h
    · exact h
theorem go_ne : ∀ (c : Wd) (hs E : List Wd), go c hs E ≠ ([], [])
  | c, [], E, h => by cases h
  | c, [x], E, h => by
    unfold go at h
    split at h <;> cases h
  | c, x :: y :: hs, E, h => by
    unfold go at h
    split at h
    · exact go_ne _ hs E h
    · cases h
theorem UF_ne {w : Wd} (h : w ≠ []) : UF w ≠ ([], []) := by
  cases w with
  | nil => exact absurd rfl h
  | cons l t => exact go_ne _ _ _
theorem UF_ev (a s : Wd) (h : (UF (a ++ s)).2 = []) : (UF s).2 = [] := by
  induction a with
  | nil => exact h
  | cons l a ih => exact ih (go_ev _ _ _ h)
theorem go_flat : ∀ (c : Wd) (hs E : List Wd), (go c hs E).1.flatten ++ (go c hs E).2.flatten = c ++ (hs.flatten ++ E.flatten)
  | c, [], E => by simp [go]
  | c, [x], E => by
    unfold go
    split <;> simp
  | c, x :: y :: hs, E => by
    unfold go
    split
    · rw [go_flat]; simp
    · simp
theorem UF_flat : ∀ w : Wd, (UF w).1.flatten ++ (UF w).2.flatten = w
  | [] => rfl
  | l :: t => by
    show (go [l] (UF t).1 (UF t).2).1.flatten ++ (go [l] (UF t).1 (UF t).2).2.flatten = _
    rw [go_flat, UF_flat t]; rfl
def oddW (w : Wd) : Prop := w.length % 2 = 1
theorem go_par : ∀ (c : Wd) (hs E : List Wd), oddW c → (∀ h, h ∈ hs → oddW h) → (∀ e, e ∈ E → e.length % 2 = 0) → (∀ h, h ∈ (go c hs E).1 → oddW h) ∧ (∀ e, e ∈ (go c hs E).2 → e.length % 2 = 0)
  | c, [], E, h1, h2, h3 => ⟨by simp [go]; exact h1, h3⟩
  | c, [x], E, h1, h2, h3 => by
    have hx := h2 x (by simp)
    unfold go
    split
    · refine ⟨by simp, fun e he => ?_⟩
      rcases List.mem_cons.mp he with rfl | he
      · unfold oddW at *; rw [List.length_append]; omega
      · exact h3 e he
    · exact ⟨by simp; exact ⟨h1, hx⟩, h3⟩
  | c, x :: y :: hs, E, h1, h2, h3 => by
    have hx := h2 x (by simp)
    have hy := h2 y (by simp)
    unfold go
    split
    · refine go_par _ hs E ?_ (fun h hh => h2 h (by simp [hh])) h3
      unfold oddW at *; rw [List.length_append, List.length_append]; omega
    · refine ⟨fun h hh => ?_, h3⟩
      rcases List.mem_cons.mp hh with rfl | hh
      · exact h1
      · exact h2 h hh
theorem UF_par : ∀ w : Wd, (∀ h, h ∈ (UF w).1 → oddW h) ∧ (∀ e, e ∈ (UF w).2 → e.length % 2 = 0)
  | [] => ⟨by simp [UF], by simp [UF]⟩
  | l :: t => go_par [l] _ _ (by simp [oddW]) (UF_par t).1 (UF_par t).2
theorem Sgl.odd {w : Wd} (h : Sgl w) : oddW w := (UF_par w).1 w (by rw [h]; simp)
theorem Sgl.ne {w : Wd} (h : Sgl w) : w ≠ [] := by
  intro e; subst e; cases h
/-- in order -/
def Asc : List Wd → Prop
  | [] => True
  | [_] => True
  | a :: b :: r => lle a b ∧ Asc (b :: r)
/-- no odd piece, or one that is not less -/
def From (y : Wd) (T : List Wd) : Prop := ∀ t r, T = t :: r → lle y t
theorem From.nil (y : Wd) : From y [] := fun _ _ h => by cases h
theorem From.mono {x y : Wd} {T : List Wd} (h : lle x y) (f : From y T) : From x T := fun t r e => lle_trans h (f t r e)
theorem asc_cons {a : Wd} {r : List Wd} : Asc (a :: r) ↔ From a r ∧ Asc r := by
  cases r with
  | nil => exact ⟨fun _ => ⟨From.nil a, trivial⟩, fun _ => trivial⟩
  | cons b r =>
    constructor
    · rintro ⟨h1, h2⟩
      exact ⟨fun t r' e => by cases e; exact h1, h2⟩
    · rintro ⟨h1, h2⟩
      exact ⟨h1 b r rfl, h2⟩
theorem go_asc : ∀ (c : Wd) (hs E : List Wd), Asc hs → Asc (go c hs E).1
  | c, [], E, _ => trivial
  | c, [x], E, _ => by
    unfold go
    split
    · trivial
    · rename_i h
      exact ⟨by simpa [lle] using h, trivial⟩
  | c, x :: y :: hs, E, h => by
    unfold go
    split
    · exact go_asc _ hs E (asc_cons.mp (asc_cons.mp h).2).2
    · rename_i hc
      exact ⟨by simpa [lle] using hc, h⟩
theorem UF_asc : ∀ w : Wd, Asc (UF w).1
  | [] => trivial
  | l :: t => go_asc [l] _ _ (UF_asc t)
/-- the first odd piece is the one itself or longer -/
def Grow (c : Wd) (T : List Wd) : Prop := ∀ t r, T = t :: r → t = c ∨ c.length < t.length
theorem Grow.from {c : Wd} {T : List Wd} (h : Grow c T) : From c T := fun t r e => by
  rcases h t r e with rfl | q
  · exact lle_refl _
  · exact lle_len q
theorem go_grow : ∀ (c : Wd) (hs E : List Wd), (∀ h, h ∈ hs → h ≠ []) → Grow c (go c hs E).1
  | c, [], E, _ => fun t r e => by cases e; exact .inl rfl
  | c, [x], E, _ => by
    unfold go
    split
    · exact fun t r e => by cases e
    · exact fun t r e => by cases e; exact .inl rfl
  | c, x :: y :: hs, E, h => by
    unfold go
    split
    · intro t r e
      have hx : 0 < x.length := List.length_pos_iff.mpr (h x (by simp))
      rcases go_grow _ hs E (fun z hz => h z (by simp [hz])) t r e with rfl | q
      · right; rw [List.length_append, List.length_append]; omega
      · right; rw [List.length_append, List.length_append] at q; omega
    · exact fun t r e => by cases e; exact .inl rfl
theorem odd_ne {w : Wd} (h : oddW w) : w ≠ [] := by intro e; subst e; cases h
/-- what stands behind stays behind -/
theorem go_app : ∀ (c : Wd) (hs T E : List Wd), (go c hs []).2 = [] → (∀ t r, (go c hs []).1 = t :: r → From t T) → go c (hs ++ T) E = ((go c hs []).1 ++ T, E)
  | c, [], T, E, h1, h2 => by
    have f : From c T := h2 c [] rfl
    cases T with
    | nil => rfl
    | cons t r =>
      have := f t r rfl
      unfold lle at this
      cases r with
      | nil => simp [go, this]
      | cons t2 r => simp [go, this]
  | c, [x], T, E, h1, h2 => by
    unfold go at h1
    split at h1
    · cases h1
    · rename_i hc
      have e : go c [x] [] = ([c, x], []) := by unfold go; rw [if_neg hc]
      rw [e]
      cases T with
      | nil => simp [go, hc]
      | cons t r => simp [go, hc]
  | c, x :: y :: hs, T, E, h1, h2 => by
    by_cases hc : llt x c = true
    · have e : go c (x :: y :: hs) [] = go (c ++ x ++ y) hs [] := by rw [go, if_pos hc]
      rw [e] at h1 h2 ⊢
      have e2 : go c (x :: y :: hs ++ T) E = go (c ++ x ++ y) (hs ++ T) E := by
        show go c (x :: y :: (hs ++ T)) E = _
        rw [go, if_pos hc]
      rw [e2]
      exact go_app _ hs T E h1 h2
    · have e : go c (x :: y :: hs) [] = (c :: x :: y :: hs, []) := by rw [go, if_neg hc]
      rw [e]
      show go c (x :: y :: (hs ++ T)) E = _
      rw [go, if_neg hc]; rfl
theorem mem_len {w : Wd} : ∀ {T : List Wd}, w ∈ T → w.length ≤ T.flatten.length
  | [], h => by cases h
  | t :: r, h => by
    rw [List.flatten_cons, List.length_append]
    rcases List.mem_cons.mp h with rfl | h
    · omega
    · have := mem_len h; omega
theorem UF_len (w : Wd) : (UF w).1.flatten.length ≤ w.length := by
  have := congrArg List.length (UF_flat w)
  rw [List.length_append] at this
  omega
/-- a single piece ahead of greater ones stands alone -/
theorem UF_app {y t : Wd} (hy : Sgl y) (ht : From y (UF t).1) : UF (y ++ t) = (y :: (UF t).1, (UF t).2) := by
  have key : ∀ (s a : Wd), a ++ s = y → UF (s ++ t) = ((UF s).1 ++ (UF t).1, (UF t).2) := by
    intro s
    induction s with
    | nil => intro a _; rfl
    | cons l s ih =>
      intro a ha
      have hev : (UF (l :: s)).2 = [] := UF_ev a (l :: s) (by rw [ha, hy])
      have hev2 : (UF s).2 = [] := go_ev _ _ _ hev
      have e1 : UF (l :: s) = go [l] (UF s).1 [] := by
        show go [l] (UF s).1 (UF s).2 = _
        rw [hev2]
      show go [l] (UF (s ++ t)).1 (UF (s ++ t)).2 = _
      rw [ih (a ++ [l]) (by simpa using ha)]
      show go [l] ((UF s).1 ++ (UF t).1) (UF t).2 = _
      rw [go_app [l] (UF s).1 (UF t).1 (UF t).2 (by rw [← e1]; exact hev) (fun c r hc => ?_), ← e1]
      rw [← e1] at hc
      refine From.mono ?_ ht
      -- the first piece of an end of y is not greater than y
      by_cases hne : a = []
      · subst hne
        have : l :: s = y := ha
        rw [this, hy] at hc
        cases hc
        exact lle_refl _
      · refine lle_len ?_
        have h1 : c.length ≤ (UF (l :: s)).1.flatten.length := mem_len (by rw [hc]; simp)
        have h2 := UF_len (l :: s)
        have h3 : 0 < a.length := List.length_pos_iff.mpr hne
        have h4 := congrArg List.length ha
        rw [List.length_append] at h4
        omega
  have := key y [] rfl
  rw [hy] at this
  exact this
/-- single pieces in order, and what stands behind them -/
theorem UF_list : ∀ (hs : List Wd) (t : Wd), (∀ h, h ∈ hs → Sgl h) → Asc hs → (∀ l, hs.getLast? = some l → From l (UF t).1) → UF (hs.flatten ++ t) = (hs ++ (UF t).1, (UF t).2)
  | [], t, _, _, _ => rfl
  | [x], t, h1, _, h3 => by
    rw [show [x].flatten = x by simp]
    exact UF_app (h1 x (by simp)) (h3 x rfl)
  | x :: y :: hs, t, h1, h2, h3 => by
    have ih := UF_list (y :: hs) t (fun h hh => h1 h (List.mem_cons_of_mem _ hh)) h2.2 (fun l hl => h3 l (by simpa using hl))
    rw [List.flatten_cons, List.append_assoc]
    rw [UF_app (h1 x (by simp)) (by rw [ih]; exact fun t' r e => by cases e; exact h2.1), ih]
    rfl
theorem go_used : ∀ (c : Wd) (hs E : List Wd) (d : Wd) (r : List Wd), (go c hs E).1 = d :: r → ∃ us, hs = us ++ r ∧ go c us [] = ([d], []) ∧ d = c ++ us.flatten
  | c, [], E, d, r, h => by cases h; exact ⟨[], rfl, rfl, by simp⟩
  | c, [x], E, d, r, h => by
    unfold go at h
    split at h
    · cases h
    · cases h; exact ⟨[], rfl, rfl, by simp⟩
  | c, x :: y :: hs, E, d, r, h => by
    unfold go at h
    split at h
    · rename_i hc
      obtain ⟨us, e1, e2, e3⟩ := go_used _ hs E d r h
      refine ⟨x :: y :: us, by rw [e1]; rfl, by rw [go, if_pos hc]; exact e2, by rw [e3]; simp⟩
    · cases h; exact ⟨[], rfl, rfl, by simp⟩
/-- each odd piece is one by itself -/
theorem UF_sgl : ∀ (w : Wd) (h : Wd), h ∈ (UF w).1 → Sgl h
  | [], h, hh => by cases hh
  | l :: t, h, hh => by
    have ih := UF_sgl t
    have asc := UF_asc t
    cases q : (UF (l :: t)).1 with
    | nil => rw [q] at hh; cases hh
    | cons d r =>
      obtain ⟨us, e1, e2, e3⟩ := go_used [l] (UF t).1 (UF t).2 d r q
      rw [q] at hh
      rcases List.mem_cons.mp hh with rfl | hh
      · have hu : UF us.flatten = (us, []) := by
          have := UF_list us [] (fun x hx => ih x (by rw [e1]; simp [hx])) ?_ (fun l _ => From.nil l)
          · simpa [UF] using this
          · rw [e1] at asc
            clear e1 e2 e3 hh q ih
            induction us with
            | nil => trivial
            | cons a us ih =>
              have asc2 := asc_cons.mp asc
              refine asc_cons.mpr ⟨fun x y e => ?_, ih asc2.2⟩
              exact asc2.1 x (y ++ r) (by rw [e]; rfl)
        show UF h = ([h], [])
        rw [e3]
        show go [l] (UF us.flatten).1 (UF us.flatten).2 = ([[l] ++ us.flatten], [])
        rw [hu, e2, e3]
      · exact ih h (by rw [e1]; simp [hh])
theorem go_last : ∀ (c : Wd) (hs : List Wd) (h y : Wd) (V E : List Wd), go c (hs ++ [h]) [] = ([y], []) → Grow h V → (∀ x, x ∈ hs → x ≠ []) → (∀ x, x ∈ V → x ≠ []) → Grow y (go c (hs ++ V) E).1
  | c, [], h, y, V, E, h1, _, _, _ => by
    simp only [List.nil_append] at h1
    unfold go at h1
    split at h1 <;> cases h1
  | c, [x], h, y, V, E, h1, hg, hn, hv => by
    have h1 : go c [x, h] [] = ([y], []) := h1
    by_cases hc : llt x c = true
    · rw [go, if_pos hc] at h1
      have ey : y = c ++ x ++ h := by cases h1; rfl
      cases V with
      | nil =>
        show Grow y (go c [x] E).1
        unfold go
        rw [if_pos hc]
        exact fun t r e => by cases e
      | cons g V =>
        show Grow y (go c (x :: g :: V) E).1
        rw [go, if_pos hc]
        intro t r e
        have hl : g = h ∨ h.length < g.length := hg g V rfl
        rcases go_grow _ V E (fun z hz => hv z (by simp [hz])) t r e with q | q
        · rcases hl with rfl | hl
          · left; rw [q, ey]
          · right; rw [q, ey]; simp only [List.length_append]; omega
        · right
          rw [ey]
          simp only [List.length_append] at q ⊢
          rcases hl with rfl | hl <;> omega
    · rw [go, if_neg hc] at h1; cases h1
  | c, x :: z :: hs, h, y, V, E, h1, hg, hn, hv => by
    have h1 : go c (x :: z :: (hs ++ [h])) [] = ([y], []) := h1
    by_cases hc : llt x c = true
    · rw [go, if_pos hc] at h1
      show Grow y (go c (x :: z :: (hs ++ V)) E).1
      rw [go, if_pos hc]
      exact go_last _ hs h y V E h1 hg (fun a ha => hn a (by simp [ha])) hv
    · rw [go, if_neg hc] at h1; cases h1
/-- a single piece, with anything behind it, grows or turns even -/
theorem UF_grow : ∀ (n : Nat) (y t : Wd), y.length ≤ n → Sgl y → Grow y (UF (y ++ t)).1
  | 0, y, t, hn, hy => absurd (List.eq_nil_of_length_eq_zero (by omega)) hy.ne
  | n + 1, [], t, hn, hy => absurd rfl hy.ne
  | n + 1, l :: s, t, hn, hy => by
    have hev : (UF s).2 = [] := go_ev _ _ _ (by show (UF (l :: s)).2 = []; rw [hy])
    have hgo : go [l] (UF s).1 [] = ([l :: s], []) := by
      have : go [l] (UF s).1 (UF s).2 = ([l :: s], []) := hy
      rw [hev] at this; exact this
    have hfl := UF_flat s
    rw [hev] at hfl
    have hfl : (UF s).1.flatten = s := by simpa using hfl
    show Grow (l :: s) (go [l] (UF (s ++ t)).1 (UF (s ++ t)).2).1
    rcases List.eq_nil_or_concat (UF s).1 with e | ⟨hs, h, e⟩
    · have : s = [] := by rw [← hfl, e]; rfl
      subst this
      exact go_grow [l] _ _ fun x hx => odd_ne ((UF_par t).1 x hx)
    · rw [List.concat_eq_append] at e
      have hh : h ∈ (UF s).1 := by rw [e]; simp
      have hl : h.length ≤ n := by
        have := mem_len hh
        rw [hfl] at this
        rw [List.length_cons] at hn
        omega
      have ih := UF_grow n h t hl (UF_sgl s h hh)
      have asc := UF_asc s
      rw [e] at asc
      have e2 : s ++ t = hs.flatten ++ (h ++ t) := by
        conv => lhs; rw [← hfl, e]
        simp
      have hlst : UF (hs.flatten ++ (h ++ t)) = (hs ++ (UF (h ++ t)).1, (UF (h ++ t)).2) := by
        refine UF_list hs (h ++ t) (fun x hx => UF_sgl s x (by rw [e]; simp [hx])) ?_ ?_
        · clear e e2 hgo hfl hh ih
          induction hs with
          | nil => trivial
          | cons a hs ihs =>
            have a2 := asc_cons.mp asc
            refine asc_cons.mpr ⟨fun x y q => a2.1 x (y ++ [h]) (by rw [q]; rfl), ihs a2.2⟩
        · intro x hx
          refine From.mono ?_ ih.from
          clear e e2 hgo hfl hh ih
          induction hs with
          | nil => cases hx
          | cons a hs ihs =>
            have a2 := asc_cons.mp asc
            cases hs with
            | nil => cases hx; exact a2.1 h [] rfl
            | cons b hs => exact ihs a2.2 (by simpa using hx)
      rw [e2, hlst]
      rw [e] at hgo
      exact go_last [l] hs h (l :: s) _ _ hgo ih (fun x hx => odd_ne ((UF_par s).1 x (by rw [e]; simp [hx]))) (fun x hx => odd_ne ((UF_par (h ++ t)).1 x hx))
/-- no stretch across two single words of one odd length is single -/
theorem comma_free {u v : Wd} {n j : Nat} (hu : Sgl u) (hv : Sgl v) (lu : u.length = n) (lv : v.length = n) (j0 : 1 ≤ j) (j1 : j < n) : ¬ Sgl (((u ++ v).drop j).take n) := by
  intro hz
  have ez : ((u ++ v).drop j).take n = u.drop j ++ v.take j := by
    rw [List.drop_append_of_le_length (by omega), List.take_append, List.length_drop, List.take_of_length_le (by rw [List.length_drop]; omega)]
    congr 2
    omega
  rw [ez] at hz
  have ls : (u.drop j).length = n - j := by rw [List.length_drop]; omega
  have lp : (v.take j).length = j := by rw [List.length_take]; omega
  have hev : (UF (u.drop j)).2 = [] := UF_ev (u.take j) (u.drop j) (by rw [List.take_append_drop, hu])
  have hfl := UF_flat (u.drop j)
  rw [hev] at hfl
  have hfl : (UF (u.drop j)).1.flatten = u.drop j := by simpa using hfl
  have pne : v.take j ≠ [] := by intro q; rw [q] at lp; simp at lp; omega
  generalize hs : u.drop j = s at *
  generalize hp : v.take j = p at *
  match hw : (UF s).1, hfl with
  | [], hfl => 
    have : s = [] := by rw [← hfl]; rfl
    rw [this] at ls; simp at ls; omega
  | [w], hfl =>
    have ew : w = s := by simpa using hfl
    subst ew
    have hws : Sgl w := UF_sgl w w (by rw [hw]; simp)
    match hq : (UF p).1 with
    | [] =>
      rw [Sgl, UF_app hws (by rw [hq]; exact From.nil w), hq] at hz
      have : UF p = ([], []) := by
        have h2 : (UF p).2 = [] := by
          have := congrArg Prod.snd hz; exact this
        exact Prod.ext hq h2
      exact UF_ne pne this
    | [p1] =>
      have o1 := hws.odd
      have on := hu.odd
      have op : oddW p1 := (UF_par p).1 p1 (by rw [hq]; simp)
      have hE := (UF_par p).2
      have fp := congrArg List.length (UF_flat p)
      rw [hq, List.length_append] at fp
      have hsum : (UF p).2.flatten.length % 2 = 0 := by
        generalize (UF p).2 = E at hE
        clear fp
        induction E with
        | nil => rfl
        | cons e E ihE =>
          rw [List.flatten_cons, List.length_append]
          have := hE e (by simp)
          have := ihE fun x hx => hE x (by simp [hx])
          omega
      simp only [List.flatten_cons, List.flatten_nil, List.append_nil] at fp
      unfold oddW at o1 on op
      omega
    | p1 :: p2 :: r =>
      have h1 : Sgl p1 := UF_sgl p p1 (by rw [hq]; simp)
      have h2 : Sgl p2 := UF_sgl p p2 (by rw [hq]; simp)
      have asc := UF_asc p
      rw [hq] at asc
      have fp := UF_flat p
      rw [hq] at fp
      have ev : v = p1 ++ (p2 ++ (r.flatten ++ (UF p).2.flatten ++ v.drop j)) := by
        conv => lhs; rw [← List.take_append_drop j v, hp, ← fp]
        simp
      have g := (UF_grow p2.length p2 (r.flatten ++ (UF p).2.flatten ++ v.drop j) (Nat.le_refl _) h2).from
      have hv2 : UF v = ([v], []) := hv
      rw [ev, UF_app h1 (g.mono asc.1)] at hv2
      have e1 : (UF (p2 ++ (r.flatten ++ (UF p).2.flatten ++ v.drop j))).1 = [] := by
        have := congrArg (fun z => z.1) hv2
        simp only [List.cons.injEq] at this
        exact this.2
      have e2 : (UF (p2 ++ (r.flatten ++ (UF p).2.flatten ++ v.drop j))).2 = [] := by
        have := congrArg (fun z => z.2) hv2
        exact this
      refine UF_ne (w := p2 ++ (r.flatten ++ (UF p).2.flatten ++ v.drop j)) (fun q => h2.ne (List.append_eq_nil_iff.mp q).1) ?_
      exact Prod.ext e1 e2
  | w1 :: w2 :: r, hfl =>
    have h1 : Sgl w1 := UF_sgl s w1 (by rw [hw]; simp)
    have h2 : Sgl w2 := UF_sgl s w2 (by rw [hw]; simp)
    have asc := UF_asc s
    rw [hw] at asc
    have es : s ++ p = w1 ++ (w2 ++ (r.flatten ++ p)) := by rw [← hfl]; simp
    have g := (UF_grow w2.length w2 (r.flatten ++ p) (Nat.le_refl _) h2).from
    have hz2 : UF (s ++ p) = ([s ++ p], []) := hz
    rw [es, UF_app h1 (g.mono asc.1)] at hz2
    have e1 : (UF (w2 ++ (r.flatten ++ p))).1 = [] := by
      have := congrArg (fun z => z.1) hz2
      simp only [List.cons.injEq] at this
      exact this.2
    have e2 : (UF (w2 ++ (r.flatten ++ p))).2 = [] := congrArg (fun z => z.2) hz2
    refine UF_ne (w := w2 ++ (r.flatten ++ p)) (fun q => h2.ne (List.append_eq_nil_iff.mp q).1) ?_
    exact Prod.ext e1 e2
end Cut
namespace Cut

/-! ### the pieces of a ring, put together -/
def goE (c : Wd) : List Wd → List Wd → List Wd × List Wd
  | [], E => ([], c :: E)
  | h :: hs, E => go (c ++ h) hs E
def ins (f : Wd) (U : List Wd × List Wd) : List Wd × List Wd := if f.length % 2 = 1 then go f U.1 U.2 else goE f U.1 U.2
/-- a piece takes in what stands behind it, if that is not less than x -/
def Piece (x f : Wd) : Prop := ∀ t, From x (UF t).1 → UF (f ++ t) = ins f (UF t)
theorem piece_letter (x : Wd) (l : Nat) : Piece x [l] := fun t _ => rfl
theorem Piece.mono {x y f : Wd} (h : lle x y) (p : Piece x f) : Piece y f := fun t ft => p t (ft.mono h)
theorem Piece.sgl {x f : Wd} (p : Piece x f) (h : oddW f) : Sgl f := by
  have := p [] (From.nil x)
  rw [List.append_nil] at this
  unfold Sgl
  rw [this]
  unfold ins
  rw [if_pos (show f.length % 2 = 1 from h)]; rfl
theorem ins_step {f x : Wd} (hs E : List Wd) (hx : oddW x) (hf : oddW f → llt x f = true) : ins f (x :: hs, E) = ins (f ++ x) (hs, E) := by
  unfold ins
  have hl : (f ++ x).length = f.length + x.length := List.length_append
  unfold oddW at hx hf
  by_cases h : f.length % 2 = 1
  · rw [if_pos h, if_neg (by omega)]
    cases hs with
    | nil =>
      show go f [x] E = goE (f ++ x) [] E
      rw [go, if_pos (hf h)]; rfl
    | cons h2 hs =>
      show go f (x :: h2 :: hs) E = goE (f ++ x) (h2 :: hs) E
      rw [go, if_pos (hf h)]; rfl
  · rw [if_neg h, if_pos (by omega)]; rfl
theorem ins_rep {x : Wd} (hx : oddW x) : ∀ (k : Nat) (f : Wd) (T E : List Wd), f ≠ [] → (oddW f → llt x f = true) → ins f (List.replicate k x ++ T, E) = ins (f ++ (List.replicate k x).flatten) (T, E)
  | 0, f, T, E, _, _ => by simp
  | k + 1, f, T, E, hn, hf => by
    rw [List.replicate_succ, List.cons_append, ins_step _ _ hx hf, ins_rep hx k (f ++ x) T E (by simp [hn]) (fun _ => llt_len (by rw [List.length_append]; have := List.length_pos_iff.mpr hn; omega))]
    simp
theorem asc_rep (x : Wd) : ∀ k, Asc (List.replicate k x)
  | 0 => trivial
  | 1 => trivial
  | k + 2 => ⟨lle_refl x, asc_rep x (k + 1)⟩
theorem Piece.join {x f : Wd} (p : Piece x f) (hx : Sgl x) (hn : f ≠ []) (hf : oddW f → llt x f = true) (k : Nat) : Piece x (f ++ (List.replicate k x).flatten) := by
  intro t ft
  have e : UF ((List.replicate k x).flatten ++ t) = (List.replicate k x ++ (UF t).1, (UF t).2) := UF_list _ t (fun h hh => by rw [List.eq_of_mem_replicate hh]; exact hx) (asc_rep x k) (fun l hl => by
    have : l ∈ List.replicate k x := List.mem_of_getLast? hl
    rw [List.eq_of_mem_replicate this]; exact ft)
  rw [List.append_assoc, p _ (by
    rw [e]
    intro t' r q
    cases k with
    | zero => exact ft t' r q
    | succ k => cases q; exact lle_refl x), e]
  rw [ins_rep hx.odd k f _ _ hn hf]
/-- the ring's pieces (where each begins, its text) stand round w's ring of n letters from a on -/
def Chain (n : Nat) : Nat → List (Nat × Wd) → Prop
  | _, [] => True
  | a, p :: r => p.1 = a % n ∧ Chain n (a + p.2.length) r
def texts (ps : List (Nat × Wd)) : List Wd := ps.map (·.2)
theorem Chain.mod {n : Nat} : ∀ {ps : List (Nat × Wd)} {a b : Nat}, a % n = b % n → Chain n a ps → Chain n b ps
  | [], _, _, _, _ => trivial
  | p :: r, a, b, h, ⟨h1, h2⟩ => ⟨h1.trans h, Chain.mod (by rw [Nat.add_mod, h, ← Nat.add_mod]) h2⟩
theorem Chain.app {n : Nat} : ∀ {ps qs : List (Nat × Wd)} {a : Nat}, Chain n a (ps ++ qs) ↔ Chain n a ps ∧ Chain n (a + (texts ps).flatten.length) qs
  | [], qs, a => by simp [Chain, texts]
  | p :: r, qs, a => by
    show (p.1 = a % n ∧ Chain n (a + p.2.length) (r ++ qs)) ↔ (p.1 = a % n ∧ Chain n (a + p.2.length) r) ∧ _
    rw [Chain.app (ps := r), and_assoc]
    have : a + (texts (p :: r)).flatten.length = a + p.2.length + (texts r).flatten.length := by simp [texts]; omega
    rw [this]
structure Ring (w : Wd) (ps : List (Nat × Wd)) : Prop where
  ex : ∃ a, Chain w.length a ps ∧ (texts ps).flatten = rot w (a % w.length)
  pc : ∃ y, (∀ p, p ∈ ps → Piece y p.2 ∧ p.2 ≠ []) ∧ ∀ p, p ∈ ps → oddW p.2 → lle y p.2
theorem texts_app (ps qs : List (Nat × Wd)) : texts (ps ++ qs) = texts ps ++ texts qs := by simp [texts]
theorem rot_app (x y : Wd) : rot (x ++ y) x.length = y ++ x := by simp [rot]
theorem Ring.turn {w : Wd} {ps qs : List (Nat × Wd)} (hn : 0 < w.length) (h : Ring w (ps ++ qs)) : Ring w (qs ++ ps) := by
  obtain ⟨a, h1, h2⟩ := h.ex
  refine ⟨?_, ?_⟩
  · have hlen : (texts ps).flatten.length + (texts qs).flatten.length = w.length := by
      have := congrArg List.length h2
      rw [rot_len, texts_app, List.flatten_append, List.length_append] at this
      exact this
    refine ⟨a + (texts ps).flatten.length, ?_, ?_⟩
    · rw [Chain.app] at h1 ⊢
      refine ⟨h1.2, Chain.mod ?_ h1.1⟩
      rw [Nat.add_assoc, hlen, Nat.add_mod_right]
    · rw [texts_app, List.flatten_append] at h2 ⊢
      have : rot ((texts ps).flatten ++ (texts qs).flatten) (texts ps).flatten.length = (texts qs).flatten ++ (texts ps).flatten := rot_app _ _
      rw [← this, h2, rot_rot (Nat.le_of_lt (Nat.mod_lt _ hn)) (by omega)]
      rw [Nat.mod_add_mod]
  · obtain ⟨y, h3, h4⟩ := h.pc
    exact ⟨y, fun p hp => h3 p (by rw [List.mem_append] at hp ⊢; exact hp.symm), fun p hp => h4 p (by rw [List.mem_append] at hp ⊢; exact hp.symm)⟩
/-- the pieces behind: each equal to the least one goes to the one before it -/
def jstep (x : Wd) (acc : List (Nat × Wd)) (p : Nat × Wd) : List (Nat × Wd) := if p.2 = x then (match acc.getLast? with
  | some q => acc.dropLast ++ [(q.1, q.2 ++ p.2)]
  | none => acc) else acc ++ [p]
/-- how many of the first pieces are the least one -/
def skipN (x : Wd) : List (Nat × Wd) → Nat
  | [] => 0
  | p :: r => if p.2 = x then skipN x r + 1 else 0
def joinP (ps : List (Nat × Wd)) (x : Wd) : List (Nat × Wd) := (ps.drop (skipN x ps) ++ ps.take (skipN x ps)).foldl (jstep x) []
theorem skip_lt {x : Wd} : ∀ {ps : List (Nat × Wd)}, (∃ p, p ∈ ps ∧ p.2 ≠ x) → skipN x ps < ps.length ∧ (∀ i, i < skipN x ps → ∃ p, ps[i]? = some p ∧ p.2 = x) ∧ ∃ p, ps[skipN x ps]? = some p ∧ p.2 ≠ x
  | [], ⟨_, h, _⟩ => by cases h
  | p :: r, ⟨q, h, hq⟩ => by
    unfold skipN
    by_cases e : p.2 = x
    · rw [if_pos e]
      have : ∃ p, p ∈ r ∧ p.2 ≠ x := by
        rcases List.mem_cons.mp h with rfl | h
        · exact absurd e hq
        · exact ⟨q, h, hq⟩
      obtain ⟨h1, h2, h3⟩ := skip_lt this
      refine ⟨by simp; omega, fun i hi => ?_, by simpa using h3⟩
      cases i with
      | zero => exact ⟨p, rfl, e⟩
      | succ i => simpa using h2 i (by omega)
    · rw [if_neg e]
      exact ⟨by simp, fun i hi => absurd hi (Nat.not_lt_zero _), p, rfl, e⟩
/-- what the joining keeps -/
structure Joins (n a : Nat) (x : Wd) (acc done : List (Nat × Wd)) : Prop where
  ch : Chain n a acc
  tx : (texts acc).flatten = (texts done).flatten
  pc : ∀ p, p ∈ acc → ∃ q k, q ∈ done ∧ q.2 ≠ x ∧ p.2 = q.2 ++ (List.replicate k x).flatten
  ln : acc.length = (done.filter fun p => decide (p.2 ≠ x)).length
theorem jstep_ok {n a : Nat} {x : Wd} {acc done : List (Nat × Wd)} {p : Nat × Wd} (h : Joins n a x acc done) (ne : p.2 = x → acc ≠ []) (hp : p.1 = (a + (texts done).flatten.length) % n) : Joins n a x (jstep x acc p) (done ++ [p]) := by
  unfold jstep
  by_cases e : p.2 = x
  · rw [if_pos e]
    obtain ⟨ini, q, rfl⟩ : ∃ ini q, acc = ini ++ [q] := by
      rcases List.eq_nil_or_concat acc with z | ⟨i, q, z⟩
      · exact absurd z (ne e)
      · exact ⟨i, q, by rw [z, List.concat_eq_append]⟩
    have hlast : (ini ++ [q]).getLast? = some q := by simp
    rw [hlast]
    dsimp only
    rw [List.dropLast_concat]
    obtain ⟨h1, h2, h3, h4⟩ := h
    refine ⟨?_, ?_, fun r hr => ?_, ?_⟩
    · rw [Chain.app] at h1 ⊢
      exact ⟨h1.1, h1.2.1, trivial⟩
    · rw [texts_app, texts_app, List.flatten_append, List.flatten_append, ← h2, texts_app, List.flatten_append]
      simp [texts]
    · rw [List.mem_append] at hr
      rcases hr with hr | hr
      · obtain ⟨s, k, z1, z2, z3⟩ := h3 r (by simp [hr])
        exact ⟨s, k, by simp [z1], z2, z3⟩
      · have hr : r = (q.1, q.2 ++ p.2) := by simpa using hr
        subst hr
        obtain ⟨s, k, z1, z2, z3⟩ := h3 q (by simp)
        refine ⟨s, k + 1, by simp [z1], z2, ?_⟩
        dsimp only
        rw [z3, e, List.replicate_succ', List.flatten_append]
        simp
    · rw [List.filter_append]
      simp only [List.length_append] at h4 ⊢
      rw [← h4]; simp [e]
  · rw [if_neg e]
    obtain ⟨h1, h2, h3, h4⟩ := h
    refine ⟨?_, ?_, fun r hr => ?_, ?_⟩
    · rw [Chain.app]
      exact ⟨h1, by rw [h2]; exact hp, trivial⟩
    · rw [texts_app, texts_app, List.flatten_append, List.flatten_append, h2]
    · rw [List.mem_append] at hr
      rcases hr with hr | hr
      · obtain ⟨s, k, z1, z2, z3⟩ := h3 r hr
        exact ⟨s, k, by simp [z1], z2, z3⟩
      · have hr : r = p := by simpa using hr
        subst hr
        exact ⟨r, 0, by simp, e, by simp⟩
    · rw [List.filter_append, List.length_append, List.length_append, h4]
      simp [e]
theorem fold_ok {n a : Nat} {x : Wd} : ∀ (todo acc done : List (Nat × Wd)), Joins n a x acc done → (∀ p r, todo = p :: r → p.2 = x → acc ≠ []) → Chain n (a + (texts done).flatten.length) todo → Joins n a x (todo.foldl (jstep x) acc) (done ++ todo)
  | [], acc, done, h, _, _ => by simpa using h
  | p :: todo, acc, done, h, ne, hc => by
    have h2 := jstep_ok h (ne p todo rfl) hc.1
    have hne : jstep x acc p ≠ [] := by
      unfold jstep
      split
      · rename_i e
        have := ne p todo rfl e
        cases hl : acc.getLast? with
        | none => exact absurd (List.getLast?_eq_none_iff.mp hl) this
        | some q => simp
      · simp
    rw [List.foldl_cons, show done ++ p :: todo = (done ++ [p]) ++ todo by simp]
    refine fold_ok todo _ _ h2 (fun _ _ _ _ => hne) ?_
    rw [texts_app, List.flatten_append, List.length_append]
    have := hc.2
    rw [Nat.add_assoc] at this
    simpa [texts] using this
/-- one round: the least odd piece is put away -/
theorem Ring.join {w : Wd} {ps : List (Nat × Wd)} {x : Wd} (hn : 0 < w.length) (h : Ring w ps) (hx : ∃ p, p ∈ ps ∧ p.2 = x) (ox : oddW x) (least : ∀ p, p ∈ ps → oddW p.2 → lle x p.2) (other : ∃ p, p ∈ ps ∧ p.2 ≠ x) :
    Ring w (joinP ps x) ∧ (joinP ps x).length < ps.length ∧ joinP ps x ≠ [] := by
  obtain ⟨k1, k2, p0, k3, k4⟩ := skip_lt other
  have hr : Ring w (ps.drop (skipN x ps) ++ ps.take (skipN x ps)) := Ring.turn hn (by rw [List.take_append_drop]; exact h)
  have hmem : ∀ p, p ∈ ps.drop (skipN x ps) ++ ps.take (skipN x ps) → p ∈ ps := fun p hp => by
    rw [List.mem_append] at hp
    exact hp.elim List.mem_of_mem_drop List.mem_of_mem_take
  have hd : ps.drop (skipN x ps) = p0 :: ps.drop (skipN x ps + 1) := by
    obtain ⟨q1, q2⟩ := List.getElem?_eq_some_iff.mp k3
    rw [List.drop_eq_getElem_cons q1, q2]
  unfold joinP
  have hlen : (ps.drop (skipN x ps) ++ ps.take (skipN x ps)).length = ps.length := by rw [List.length_append, List.length_drop, List.length_take]; omega
  have hxm : ∃ p, p ∈ ps.drop (skipN x ps) ++ ps.take (skipN x ps) ∧ p.2 = x := by
    obtain ⟨p, q1, q2⟩ := hx
    refine ⟨p, ?_, q2⟩
    rw [← List.take_append_drop (skipN x ps) ps, List.mem_append] at q1
    rw [List.mem_append]; exact q1.symm
  generalize hqs : ps.drop (skipN x ps) ++ ps.take (skipN x ps) = qs at *
  obtain ⟨a, c1, c2⟩ := hr.ex
  obtain ⟨y, y1, y2⟩ := h.pc
  have J := fold_ok (n := w.length) (a := a) (x := x) qs [] [] ⟨trivial, rfl, (fun p hp => by cases hp), rfl⟩ (fun p r e q => by
    rw [← hqs, hd] at e
    cases e
    exact absurd q k4) (by simpa [texts] using c1)
  rw [List.nil_append] at J
  have xs : Sgl x := by
    obtain ⟨p, q1, q2⟩ := hx
    have := (y1 p q1).1.sgl (by rw [q2]; exact ox)
    rw [q2] at this; exact this
  have yx : lle y x := by
    obtain ⟨p, q1, q2⟩ := hx
    have := y2 p q1 (by rw [q2]; exact ox)
    rw [q2] at this; exact this
  refine ⟨⟨⟨a, J.ch, by rw [J.tx]; exact c2⟩, x, fun p hp => ?_, fun p hp ho => ?_⟩, ?_, ?_⟩
  · obtain ⟨q, k, z1, z2, z3⟩ := J.pc p hp
    have hq := hmem q z1
    obtain ⟨u1, u2⟩ := y1 q hq
    rw [z3]
    refine ⟨(u1.mono yx).join xs u2 (fun oq => ?_) k, by simp [u2]⟩
    have l1 := least q hq oq
    cases e : llt x q.2 with
    | true => rfl
    | false => exact absurd (llt_total l1 e) z2
  · obtain ⟨q, k, z1, z2, z3⟩ := J.pc p hp
    have hq := hmem q z1
    cases k with
    | zero =>
      have e : p.2 = q.2 := by simpa using z3
      rw [e] at ho ⊢
      exact least q hq ho
    | succ k =>
      refine lle_len ?_
      rw [z3, List.replicate_succ, List.flatten_cons]
      have := List.length_pos_iff.mpr (y1 q hq).2
      simp only [List.length_append]
      omega
  · rw [J.ln, ← hlen]
    obtain ⟨p, q1, q2⟩ := hxm
    have : (qs.filter fun p => decide (p.2 ≠ x)).length ≠ qs.length := fun e => by
      have := List.length_filter_eq_length_iff.mp e p q1
      simp [q2] at this
    have := List.length_filter_le (fun p : Nat × Wd => decide (p.2 ≠ x)) qs
    omega
  · intro e
    have := J.ln
    rw [e] at this
    have hm : p0 ∈ qs.filter fun p => decide (p.2 ≠ x) := List.mem_filter.mpr ⟨by rw [← hqs, hd]; simp, by simpa using k4⟩
    have h5 := List.length_pos_iff.mpr (List.ne_nil_of_mem hm)
    rw [← this] at h5
    exact absurd h5 (Nat.lt_irrefl 0)
/-- a word no turn of which is it -/
def Simple (w : Wd) : Prop := ∀ i, 1 ≤ i → i < w.length → rot w i ≠ w
theorem rot_back {w : Wd} {a b : Nat} (ha : a < w.length) (hb : b < w.length) (h : rot (rot w a) b = rot w a) : rot w b = w := by
  have h2 : rot (rot (rot w a) b) (w.length - a) = rot (rot w a) (w.length - a) := by rw [h]
  have e1 : rot (rot w a) (w.length - a) = w := by
    rw [rot_rot (by omega) (by omega), show a + (w.length - a) = w.length by omega, Nat.mod_self, rot_zero]
  have hm := Nat.mod_lt (a + b) (show 0 < w.length by omega)
  rw [e1, rot_rot (w := w) (n := a) (m := b) (by omega) (by omega), rot_rot (w := w) (n := (a + b) % w.length) (m := w.length - a) (by omega) (by omega)] at h2
  have e3 : ((a + b) % w.length + (w.length - a)) % w.length = b := by
    rw [Nat.mod_add_mod, show a + b + (w.length - a) = b + w.length by omega, Nat.add_mod_right, Nat.mod_eq_of_lt hb]
  rw [e3] at h2
  exact h2
/-- the pieces of a simple ring are not all alike -/
theorem Ring.other {w : Wd} {ps : List (Nat × Wd)} {x : Wd} (hs : Simple w) (h : Ring w ps) (h2 : 2 ≤ ps.length) (hn : 0 < w.length) (ne : x ≠ []) : ∃ p, p ∈ ps ∧ p.2 ≠ x := by
  apply Classical.byContradiction
  intro hno
  have all : ∀ p, p ∈ ps → p.2 = x := fun p hp => Classical.byContradiction fun q => hno ⟨p, hp, q⟩
  obtain ⟨a, _, c2⟩ := h.ex
  have e : texts ps = List.replicate ps.length x := by
    refine List.eq_replicate_iff.mpr ⟨by simp [texts], fun y hy => ?_⟩
    obtain ⟨p, hp, rfl⟩ := List.mem_map.mp hy
    exact all p hp
  obtain ⟨k, hk⟩ : ∃ k, ps.length = k + 2 := ⟨ps.length - 2, by omega⟩
  rw [e, hk] at c2
  have xl := List.length_pos_iff.mpr ne
  have hlen := congrArg List.length c2
  rw [rot_len, List.replicate_succ, List.flatten_cons, List.length_append, List.replicate_succ, List.flatten_cons, List.length_append] at hlen
  have hx : rot (rot w (a % w.length)) x.length = rot w (a % w.length) := by
    rw [← c2]
    have e1 : (List.replicate (k + 2) x).flatten = x ++ (List.replicate (k + 1) x).flatten := by rw [List.replicate_succ, List.flatten_cons]
    have e2 : (List.replicate (k + 2) x).flatten = (List.replicate (k + 1) x).flatten ++ x := by rw [List.replicate_succ', List.flatten_append]; simp
    conv => lhs; rw [e1]
    rw [rot_app, ← e2]
  exact hs x.length xl (by omega) (rot_back (Nat.mod_lt _ hn) (by omega) hx)
/-- some piece is odd -/
theorem Ring.odd {w : Wd} {ps : List (Nat × Wd)} (h : Ring w ps) (ho : oddW w) : ∃ p, p ∈ ps ∧ oddW p.2 := by
  obtain ⟨a, _, c2⟩ := h.ex
  have hlen := congrArg List.length c2
  rw [rot_len] at hlen
  clear c2 h
  apply Classical.byContradiction
  intro hno
  have : ∀ qs : List (Nat × Wd), (∀ p, p ∈ qs → ¬ oddW p.2) → (texts qs).flatten.length % 2 = 0 := by
    intro qs
    induction qs with
    | nil => intro _; rfl
    | cons q qs ih =>
      intro hq
      have h1 := hq q (by simp)
      have h2 := ih fun p hp => hq p (by simp [hp])
      show ((q.2 :: texts qs).flatten).length % 2 = 0
      rw [List.flatten_cons, List.length_append]
      unfold oddW at h1
      omega
  have := this ps fun p hp q => hno ⟨p, hp, q⟩
  unfold oddW at ho
  omega
/-- at the end one piece is left -/
theorem Ring.one {w : Wd} {p : Nat × Wd} (h : Ring w [p]) (ho : oddW w) (hn : 0 < w.length) : p.1 < w.length ∧ p.2 = rot w p.1 ∧ Sgl (rot w p.1) := by
  obtain ⟨a, c1, c2⟩ := h.ex
  have e1 : p.1 = a % w.length := c1.1
  have e2 : p.2 = rot w p.1 := by rw [e1, ← c2]; simp [texts]
  obtain ⟨y, y1, _⟩ := h.pc
  refine ⟨by rw [e1]; exact Nat.mod_lt _ hn, e2, ?_⟩
  rw [← e2]
  refine (y1 p (by simp)).1.sgl ?_
  rw [e2]
  unfold oddW at *
  rw [rot_len]; exact ho
/-- the letters at first -/
def letters (w : Wd) : List (Nat × Wd) := (List.range w.length).map fun i => (i, [w.getD i 0])
theorem letters_ring {w : Wd} (hn : 0 < w.length) : Ring w (letters w) := by
  refine ⟨⟨0, ?_, ?_⟩, [], fun p hp => ?_, fun p hp _ => ?_⟩
  · have : ∀ (m k : Nat), k + m ≤ w.length → Chain w.length k ((List.range' k m).map fun i => (i, [w.getD i 0])) := by
      intro m
      induction m with
      | zero => intro k _; trivial
      | succ m ih =>
        intro k hk
        rw [List.range'_succ, List.map_cons]
        exact ⟨(Nat.mod_eq_of_lt (by omega)).symm, ih (k + 1) (by omega)⟩
    unfold letters
    rw [List.range_eq_range']
    exact this w.length 0 (by omega)
  · rw [Nat.zero_mod, rot_zero]
    have : texts (letters w) = w.map fun c => [c] := by
      unfold texts letters
      rw [List.map_map]
      apply List.ext_getElem?
      intro i
      rw [List.getElem?_map, List.getElem?_map]
      by_cases hi : i < w.length
      · rw [List.getElem?_range hi, List.getElem?_eq_getElem hi]
        simp [List.getD_eq_getElem?_getD, List.getElem?_eq_getElem hi]
      · rw [List.getElem?_eq_none (by simp; omega), List.getElem?_eq_none (by omega)]; rfl
    rw [this]
    clear this hn
    induction w with
    | nil => rfl
    | cons c r ih => simp [ih]
  · obtain ⟨i, _, rfl⟩ := List.mem_map.mp hp
    exact ⟨piece_letter _ _, by simp⟩
  · obtain ⟨i, _, rfl⟩ := List.mem_map.mp hp
    exact lle_len (by simp)
/-- two single words of one ring are the same -/
theorem sgl_turn {c : Wd} {i : Nat} (hc : Sgl c) (hi : Sgl (rot c i)) (h : i < c.length) : i = 0 ∨ rot c i = c := by
  rcases Nat.eq_zero_or_pos i with h0 | h0
  · exact .inl h0
  · exfalso
    have := comma_free (j := i) hc hc rfl rfl h0 h
    refine this ?_
    have e : ((c ++ c).drop i).take c.length = rot c i := by
      unfold rot
      rw [List.drop_append_of_le_length (by omega), List.take_append, List.length_drop, List.take_of_length_le (by rw [List.length_drop]; omega), show c.length - (c.length - i) = i by omega]
    rw [e]; exact hi
theorem sgl_simple {c : Wd} (hc : Sgl c) : Simple c := fun i h1 h2 e => by
  rcases sgl_turn hc (by rw [e]; exact hc) h2 with h | h
  · omega
  · have := comma_free (j := i) hc hc rfl rfl h1 h2
    refine this ?_
    have e2 : ((c ++ c).drop i).take c.length = rot c i := by
      unfold rot
      rw [List.drop_append_of_le_length (by omega), List.take_append, List.length_drop, List.take_of_length_le (by rw [List.length_drop]; omega), show c.length - (c.length - i) = i by omega]
    rw [e2, e]; exact hc
/-- all turns of a word are cut at the same turn -/
theorem sgl_same {w : Wd} {a b i : Nat} (hn : 0 < w.length) (ha : a < w.length) (hi : i ≤ w.length) (hb : b < w.length) (h1 : Sgl (rot w a)) (h2 : Sgl (rot (rot w i) b)) : rot (rot w i) b = rot w a := by
  rw [rot_rot hi (by omega)] at h2 ⊢
  have hm := Nat.mod_lt (i + b) hn
  generalize (i + b) % w.length = m at *
  -- rot w m is the turn of rot w a at (m + n - a) % n
  have e : rot (rot w a) ((m + w.length - a) % w.length) = rot w m := by
    rw [rot_rot (by omega) (by have := Nat.mod_lt (m + w.length - a) hn; omega), Nat.add_mod_mod, show a + (m + w.length - a) = m + w.length by omega, Nat.add_mod_right, Nat.mod_eq_of_lt hm]
  rw [← e] at h2 ⊢
  rcases sgl_turn h1 h2 (by rw [rot_len]; exact Nat.mod_lt _ hn) with q | q
  · rw [q, rot_zero]
  · exact q
end Cut
namespace Cut
open PySem PySem.Spec L2
open PyProof.Rows hiding St
/-- a comprehension that draws: every item's answer is one of some kind -/
theorem lcL_inv {own : List Nat} {t : D → DS → Option DS} {c : DS → Rs Bool} {f : DS → Rs D} (base : DS) (J : Src → Prop) (Q : D → D → Prop) : ∀ (items acc : List D) (s : DS) (sr : Src), wipeD s own = { base with src := sr } → J sr → acc.length + items.length ≤ LN →
    (∀ d, d ∈ items → ∀ sr, J sr → ∃ s1, t d { base with src := sr } = some s1 ∧ (c s1).wp (fun b s2 => (b = true → (f s2).wp (fun z s3 => Q d z ∧ ∃ sr', wipeD s3 own = { base with src := sr' } ∧ J sr') fun _ _ => False) ∧ (b = false → ∃ sr', wipeD s2 own = { base with src := sr' } ∧ J sr')) fun _ _ => False) →
    ∃ ys s' sr', wipeD s' own = { base with src := sr' } ∧ J sr' ∧ ys.length ≤ items.length ∧ (∀ y, y ∈ ys → ∃ d, d ∈ items ∧ Q d y) ∧ lcL own t c f items acc s = .ok (acc ++ ys) s'
  | [], acc, s, sr, h, hj, _, _ => ⟨[], s, sr, h, hj, Nat.le_refl _, (fun _ h => by cases h), by simp [lcL]⟩
  | d :: r, acc, s, sr, h, hj, hl, st => by
    obtain ⟨s1, e1, e2⟩ := st d List.mem_cons_self sr hj
    unfold lcL
    rw [h, e1]
    dsimp only
    rw [List.length_cons] at hl
    cases z : c s1 with
    | exc _ _ => rw [z] at e2; exact e2.elim
    | bad => rw [z] at e2; exact e2.elim
    | ok b s2 =>
      rw [z] at e2
      simp only [wp_ok] at e2
      obtain ⟨h3, h4⟩ := e2
      simp only [noX, Rs.bind]
      cases b with
      | true =>
        have h3 := h3 rfl
        simp only [if_true]
        cases z3 : f s2 with
        | exc _ _ => rw [z3] at h3; exact h3.elim
        | bad => rw [z3] at h3; exact h3.elim
        | ok y s3 =>
          rw [z3] at h3
          obtain ⟨hq, sr', h5, h6⟩ := h3
          simp only [noX, Rs.bind]
          rw [if_pos (by omega)]
          obtain ⟨ys, s', sr2, w, hj2, l2, q2, e⟩ := lcL_inv base J Q r (acc ++ [y]) s3 sr' h5 h6 (by simp; omega) (fun d hd => st d (List.mem_cons_of_mem _ hd))
          refine ⟨y :: ys, s', sr2, w, hj2, by simp; omega, fun x hx => ?_, by rw [e]; simp⟩
          rcases List.mem_cons.mp hx with rfl | hx
          · exact ⟨d, List.mem_cons_self, hq⟩
          · obtain ⟨d', m, q⟩ := q2 x hx
            exact ⟨d', List.mem_cons_of_mem _ m, q⟩
      | false =>
        obtain ⟨sr', h5, h6⟩ := h4 rfl
        obtain ⟨ys, s', sr2, w, hj2, l2, q2, e⟩ := lcL_inv base J Q r acc s2 sr' h5 h6 (by omega) (fun d hd => st d (List.mem_cons_of_mem _ hd))
        refine ⟨ys, s', sr2, w, hj2, by simp; omega, fun x hx => ?_, by simpa using e⟩
        obtain ⟨d', m, q⟩ := q2 x hx
        exact ⟨d', List.mem_cons_of_mem _ m, q⟩
theorem wp_lci {Γ : Gam} {own : List (Str × Nat)} {tg : Tg} {it c e : Ex} {s : DS} {P : D → DS → Prop} {X : Xc → DS → Prop} (J : Src → Prop) (Q : D → D → Prop)
    (h : (evI Γ it s).wp (fun items s1 => calmD (own.map (·.2)) s1 = true ∧ J s1.src ∧ items.length ≤ LN ∧ (∀ d, d ∈ items → ∀ sr, J sr → ∃ s4, tg.t d { wipeD s1 (own.map (·.2)) with src := sr } = some s4 ∧
      (evT Γ c s4).wp (fun b s2 => (b = true → (evE Γ e s2).wp (fun z s3 => Q d z ∧ ∃ sr', wipeD s3 (own.map (·.2)) = { wipeD s1 (own.map (·.2)) with src := sr' } ∧ J sr') fun _ _ => False) ∧ (b = false → ∃ sr', wipeD s2 (own.map (·.2)) = { wipeD s1 (own.map (·.2)) with src := sr' } ∧ J sr')) fun _ _ => False) ∧
      (∀ ys sr', J sr' → ys.length ≤ items.length → (∀ y, y ∈ ys → ∃ d, d ∈ items ∧ Q d y) → P (.lst ys) { s1 with src := sr' })) X) : (evE Γ (.lc own tg it c e) s).wp P X := by
  show (lcS (own.map (·.2)) (evI Γ it) tg.t (evT Γ c) (evE Γ e) s).wp P X
  unfold lcS
  rw [wp_bind]
  refine h.imp fun items s1 ⟨hc, hj, hl, st, q⟩ => ?_
  rw [if_pos hc]
  obtain ⟨ys, s', sr', w, hj2, l2, q2, e2⟩ := lcL_inv (wipeD s1 (own.map (·.2))) J Q items [] s1 s1.src rfl hj (by simpa using hl) st
  rw [e2]
  simp only [noX, Rs.bind, List.nil_append]
  have hr : restD (own.map (·.2)) s1 s' = { s1 with src := sr' } := by
    have := rest_of_wipe (own := own.map (·.2)) (s := { s1 with src := sr' }) (s' := s') (by rw [w]; rfl)
    exact this
  rw [wp_ok, hr]
  exact q ys sr' hj2 l2 q2
end Cut
namespace Cut
open PySem PySem.Spec L2
open PyProof.Rows hiding St
/-- two fors, no tests, nothing drawn -/
theorem lc2L_ok {α β : Type} {own vs1 : List Nat} {t t1 : D → DS → Option DS} {c c1 : DS → Rs Bool} {fi1 : DS → Rs (List D)} {f : DS → Rs D} (hv : ∀ i, i ∈ vs1 → i ∈ own) (base : DS) (k : α → D) (ins : α → List β) (k1 : α → β → D) (g : α → β → D) (m : Nat) (hm : ∀ x, (ins x).length ≤ m) : ∀ (xs : List α) (acc : List D) (s : DS), wipeD s own = base → acc.length + xs.length * m ≤ LN →
    (∀ x, x ∈ xs → ∃ s3, t (k x) base = some s3 ∧ (c s3).wp (fun b s4 => b = true ∧ (fi1 s4).wp (fun items1 s5 => items1 = (ins x).map (k1 x) ∧ calmD vs1 s5 = true ∧ wipeD s5 own = base ∧ ∀ y, y ∈ ins x → ∃ s6, t1 (k1 x y) (wipeD s5 vs1) = some s6 ∧
      (c1 s6).wp (fun b s7 => b = true ∧ (f s7).wp (fun z s8 => z = g x y ∧ wipeD s8 vs1 = wipeD s5 vs1) fun _ _ => False) fun _ _ => False) fun _ _ => False) fun _ _ => False) →
    ∃ s', wipeD s' own = base ∧ lc2L own vs1 t c fi1 t1 c1 f (xs.map k) acc s = .ok (acc ++ xs.flatMap fun x => (ins x).map (g x)) s'
  | [], acc, s, h, _, _ => ⟨s, h, by simp [lc2L]⟩
  | x :: r, acc, s, h, hl, st => by
    obtain ⟨s3, e1, e2⟩ := st x List.mem_cons_self
    rw [List.map_cons]
    unfold lc2L
    rw [h, e1]
    dsimp only
    have hmx := hm x
    have hl2 : acc.length + (r.length * m + m) ≤ LN := by rw [List.length_cons, Nat.add_mul, Nat.one_mul] at hl; exact hl
    cases z : c s3 with
    | exc _ _ => rw [z] at e2; exact e2.elim
    | bad => rw [z] at e2; exact e2.elim
    | ok b s4 =>
      rw [z] at e2
      obtain ⟨rfl, e3⟩ := e2
      simp only [noX, Rs.bind, if_true]
      cases z2 : fi1 s4 with
      | exc _ _ => rw [z2] at e3; exact e3.elim
      | bad => rw [z2] at e3; exact e3.elim
      | ok items1 s5 =>
        rw [z2] at e3
        obtain ⟨rfl, hc, hw5, hin⟩ := e3
        simp only [noX, Rs.bind]
        rw [if_pos hc]
        obtain ⟨s6, w6, e6⟩ := lcL_ok (own := vs1) (t := t1) (c := c1) (f := f) (wipeD s5 vs1) (k1 x) (fun _ => true) (g x) (ins x) acc s5 rfl (by omega) (fun y hy => by
          obtain ⟨s6, q1, q2⟩ := hin y hy
          exact ⟨s6, q1, q2.imp fun b s7 ⟨b1, b2⟩ => ⟨b1, fun _ => b2, fun z => by rw [b1] at z; cases z⟩⟩)
        rw [e6]
        simp only [noX, Rs.bind]
        have w7 : wipeD s6 own = base := by rw [← wipeD_sub hv, w6, wipeD_sub hv, hw5]
        rw [List.filter_eq_self.mpr (fun _ _ => rfl)]
        obtain ⟨s', w', e'⟩ := lc2L_ok hv base k ins k1 g m hm r (acc ++ (ins x).map (g x)) s6 w7 (by rw [List.length_append, List.length_map]; omega) (fun y hy => st y (List.mem_cons_of_mem _ hy))
        exact ⟨s', w', by rw [e']; simp⟩
theorem wp_lc2 {α β : Type} {Γ : Gam} {own : List (Str × Nat)} {tg tg1 : Tg} {it it1 e : Ex} {s : DS} {P : D → DS → Prop} {X : Xc → DS → Prop} (hv : ∀ i, i ∈ tg1.vs → i ∈ own.map (·.2)) (k : α → D) (ins : α → List β) (k1 : α → β → D) (g : α → β → D) (m : Nat) (hm : ∀ x, (ins x).length ≤ m)
    (h : (evI Γ it s).wp (fun items s1 => calmD (own.map (·.2)) s1 = true ∧ ∃ xs : List α, items = xs.map k ∧ xs.length * m ≤ LN ∧ (∀ x, x ∈ xs → ∃ s3, tg.t (k x) (wipeD s1 (own.map (·.2))) = some s3 ∧
      (evI Γ it1 s3).wp (fun items1 s5 => items1 = (ins x).map (k1 x) ∧ calmD tg1.vs s5 = true ∧ wipeD s5 (own.map (·.2)) = wipeD s1 (own.map (·.2)) ∧ ∀ y, y ∈ ins x → ∃ s6, tg1.t (k1 x y) (wipeD s5 tg1.vs) = some s6 ∧
        (evE Γ e s6).wp (fun z s8 => z = g x y ∧ wipeD s8 tg1.vs = wipeD s5 tg1.vs) fun _ _ => False) fun _ _ => False) ∧
      P (.lst (xs.flatMap fun x => (ins x).map (g x))) s1) X) : (evE Γ (.lc2 own tg it .tyes tg1 it1 .tyes e) s).wp P X := by
  show (lc2S (own.map (·.2)) tg1.vs (evI Γ it) tg.t (evT Γ .tyes) (evI Γ it1) tg1.t (evT Γ .tyes) (evE Γ e) s).wp P X
  unfold lc2S
  rw [wp_bind]
  refine h.imp fun items s1 ⟨hc, xs, e1, hl, st, q⟩ => ?_
  rw [if_pos hc]
  obtain ⟨s', w, e2⟩ := lc2L_ok (own := own.map (·.2)) (vs1 := tg1.vs) (t := tg.t) (t1 := tg1.t) (c := evT Γ .tyes) (c1 := evT Γ .tyes) (fi1 := evI Γ it1) (f := evE Γ e) hv (wipeD s1 (own.map (·.2))) k ins k1 g m hm xs [] s1 rfl (by simpa using hl) (fun x hx => by
    obtain ⟨s3, q1, q2⟩ := st x hx
    refine ⟨s3, q1, ?_⟩
    rw [w_tyes]
    refine ⟨rfl, q2.imp fun items1 s5 ⟨a1, a2, a3, a4⟩ => ⟨a1, a2, a3, fun y hy => ?_⟩⟩
    obtain ⟨s6, b1, b2⟩ := a4 y hy
    refine ⟨s6, b1, ?_⟩
    rw [w_tyes]
    exact ⟨rfl, b2⟩)
  rw [e1, e2]
  simp only [noX, Rs.bind, List.nil_append]
  rw [rest_of_wipe w]
  exact q
end Cut
namespace Cut
open PySem PySem.Spec L2
open PyProof.Rows hiding St
/-! ### the middle language -/
def tbl (p s m : List (Str × Nat)) (q : List (Str × Fl)) : Tb := ⟨[("MOST_RING", 99), ("MOST_COUNTED", 200), ("MOST_LISTED", 2187)], [("ALL", [97, 98, 99, 100])], p, s, ["len", "all", "sum", "max", "min", "list", "tuple", "int", "isinstance", "range", "str", "bool", "enumerate", "sorted"], false, m, q⟩
def errs : List Str := ["BadNumber", "BadWord"]
def il_is_integer : Sx := (.cons (.ret (.andv (.isi .int (.bor 0)) (.andv (.notv (.isi .bool (.bor 0))) (.one (.chn .le .le (.bor 1) (.bor 0) (.bor 2)))))) .nil)
def gam_is_integer : Gam := ⟨[], [], []⟩
def sem_is_integer : PF := semP ["thing", "low", "high"] 3 (evB gam_is_integer il_is_integer)
def il_is_string : Sx := (.cons (.ret (.andv (.isi .str (.bor 0)) (.one (.cal .all (.cons (.lc [("letter", 2)] (.nm 2) (.seq (.var 0)) .tyes (.cmp .inn (.bor 2) (.sl (.gstr 0 [97, 98, 99, 100]) .pn (.ps (.var 1))))) .nil))))) .nil)
def gam_is_string : Gam := ⟨[], [], []⟩
def sem_is_string : PF := semP ["thing", "letters", "letter"] 2 (evB gam_is_string il_is_string)
def il_turn : Sx := (.cons (.ret (.bin .add (.sl (.bor 0) (.ps (.var 1)) .pn) (.sl (.bor 0) .pn (.ps (.var 1))))) .nil)
def gam_turn : Gam := ⟨[], [], []⟩
def sem_turn : PF := semP ["word", "at"] 2 (evB gam_turn il_turn)
def il_check_ring : Sx := (.cons (.ite (.tw (.tor (.tnot (.tval (.call 0 (.cons (.var 0) (.cons (.cal .len (.cons (.gstr 0 [97, 98, 99, 100]) .nil)) .nil))))) (.tone (.tnot (.tchn .le .le (.kint 1) (.cal .len (.cons (.bor 0) .nil)) (.gint 0 99)))))) (.cons (.raise0 "BadWord") .nil) .nil) .nil)
def gam_check_ring : Gam := ⟨[(sem_is_string, 2)], [], []⟩
def sem_check_ring : PF := semP ["thing"] 1 (evB gam_check_ring il_check_ring)
def il_is_simple : Sx := (.cons (.expr (.call 0 (.cons (.var 0) .nil))) (.cons (.ret (.cal .all (.cons (.lc [("at", 1)] (.nm 1) (.r2 (.cons (.kint 1) (.cons (.cal .len (.cons (.bor 0) .nil)) .nil))) .tyes (.cmp .ne (.call 1 (.cons (.var 0) (.cons (.var 1) .nil))) (.bor 0))) .nil))) .nil))
def gam_is_simple : Gam := ⟨[(sem_check_ring, 1), (sem_turn, 2)], [], []⟩
def sem_is_simple : PF := semP ["word", "at"] 1 (evB gam_is_simple il_is_simple)
def il_joined : Sx := (.cons (.asg 2 (.kint 0)) (.cons (.whl (10 ^ 60) (.tcmp .eq (.ix (.ix (.bor 0) (.bor 2)) (.kint 1)) (.bor 1)) (.cons (.aug 2 .add (.kint 1)) .nil)) (.cons (.own 3 (.lst .nil)) (.cons (.for_ (.tp [4, 5]) (.seq (.binN .cat (.slN (.bor 0) (.ps (.var 2)) .pn) (.slN (.bor 0) .pn (.ps (.var 2))))) (.cons (.ite (.tcmp .eq (.bor 5) (.bor 1)) (.cons (.sx (.setI 3) (.tup (.cons (.ix (.ix (.bor 3) (.neg (.kint 1))) (.kint 0)) (.cons (.bin .add (.ix (.ix (.bor 3) (.neg (.kint 1))) (.kint 1)) (.bor 5)) .nil))) (.neg (.kint 1)) .nil) .nil) (.cons (.app 3 (.tup (.cons (.var 4) (.cons (.var 5) .nil)))) .nil)) .nil)) (.cons (.ret (.var 3)) .nil)))))
def gam_joined : Gam := ⟨[], [], []⟩
def sem_joined : PF := semP ["pieces", "least", "begin", "found", "at", "text"] 2 (evB gam_joined il_joined)
def il_cut : Sx := (.cons (.expr (.call 0 (.cons (.var 0) .nil))) (.cons (.ite (.tw (.tor (.tcmp .eq (.bin .mod (.cal .len (.cons (.bor 0) .nil)) (.kint 2)) (.kint 0)) (.tone (.tnot (.tval (.call 2 (.cons (.var 0) .nil))))))) (.cons (.raise0 "BadWord") .nil) .nil) (.cons (.lcA false 1 (.lc [("at", 3), ("letter", 4)] (.tp [3, 4]) (.iex .enu .knon (.cons (.var 0) .nil)) .tyes (.tup (.cons (.var 3) (.cons (.var 4) .nil))))) (.cons (.whl (10 ^ 60) (.tcmp .gt (.cal .len (.cons (.bor 1) .nil)) (.kint 1)) (.cons (.lcA false 2 (.lc [("at", 3), ("text", 5)] (.tp [3, 5]) (.seq (.var 1)) (.tw (.tcmp .eq (.bin .mod (.cal .len (.cons (.bor 5) .nil)) (.kint 2)) (.kint 1))) (.tup (.cons (.cal .len (.cons (.bor 5) .nil)) (.cons (.var 5) .nil))))) (.cons (.asg 1 (.call 1 (.cons (.var 1) (.cons (.ix (.cal .min (.cons (.bor 2) .nil)) (.kint 1)) .nil)))) .nil))) (.cons (.ret (.ix (.ix (.bor 1) (.kint 0)) (.kint 0))) .nil)))))
def gam_cut : Gam := ⟨[(sem_check_ring, 1), (sem_joined, 2), (sem_is_simple, 1)], [], []⟩
def sem_cut : PF := semP ["word", "pieces", "odd", "at", "letter", "text"] 1 (evB gam_cut il_cut)
def il_cut_turn : Sx := (.cons (.ret (.call 0 (.cons (.var 0) (.cons (.call 1 (.cons (.var 0) .nil)) .nil)))) .nil)
def gam_cut_turn : Gam := ⟨[(sem_turn, 2), (sem_cut, 1)], [], []⟩
def sem_cut_turn : PF := semP ["word"] 1 (evB gam_cut_turn il_cut_turn)
def il_power : Sx := (.cons (.asg 2 (.kint 1)) (.cons (.for_ (.nm 3) (.r1 (.cons (.bor 1) .nil)) (.cons (.asg 2 (.bin .mul (.bor 2) (.bor 0))) .nil)) (.cons (.ret (.var 2)) .nil)))
def gam_power : Gam := ⟨[], [], []⟩
def sem_power : PF := semP ["one", "times", "found", "again"] 2 (evB gam_power il_power)
def il_sign_of : Sx := (.cons (.unp (.tp [1, 2]) (.tup (.cons (.kint 1) (.cons (.kint 2) .nil)))) (.cons (.whl (10 ^ 60) (.tcmp .gt (.bor 0) (.kint 1)) (.cons (.ite (.tcmp .eq (.bin .mod (.bor 0) (.bor 2)) (.kint 0)) (.cons (.asg 0 (.bin .fdiv (.bor 0) (.bor 2))) (.cons (.ite (.tcmp .eq (.bin .mod (.bor 0) (.bor 2)) (.kint 0)) (.cons (.ret (.kint 0)) .nil) .nil) (.cons (.asg 1 (.neg (.var 1))) .nil))) .nil) (.cons (.aug 2 .add (.kint 1)) .nil))) (.cons (.ret (.var 1)) .nil)))
def gam_sign_of : Gam := ⟨[], [], []⟩
def sem_sign_of : PF := semP ["n", "found", "prime"] 1 (evB gam_sign_of il_sign_of)
def il_rings : Sx := (.cons (.ite (.tw (.tor (.tnot (.tval (.call 0 (.cons (.var 0) (.cons (.kint 2) (.cons (.cal .len (.cons (.gstr 0 [97, 98, 99, 100]) .nil)) .nil)))))) (.tone (.tnot (.tval (.call 0 (.cons (.var 1) (.cons (.kint 1) (.cons (.gint 1 200) .nil))))))))) (.cons (.raise0 "BadNumber") .nil) .nil) (.cons (.ret (.bin .fdiv (.cal .sum (.cons (.lc [("part", 2)] (.nm 2) (.r2 (.cons (.kint 1) (.cons (.bin .add (.bor 1) (.kint 1)) .nil))) (.tw (.tcmp .eq (.bin .mod (.bor 1) (.bor 2)) (.kint 0))) (.bin .mul (.call 1 (.cons (.var 2) .nil)) (.call 2 (.cons (.var 0) (.cons (.bin .fdiv (.bor 1) (.bor 2)) .nil))))) .nil)) (.bor 1))) .nil))
def gam_rings : Gam := ⟨[(sem_is_integer, 3), (sem_sign_of, 1), (sem_power, 2)], [], []⟩
def sem_rings : PF := semP ["letters", "n", "part"] 2 (evB gam_rings il_rings)
def il_all_words : Sx := (.cons (.asg 2 (.lst (.cons (.kstr []) .nil))) (.cons (.for_ (.nm 3) (.r1 (.cons (.bor 1) .nil)) (.cons (.lcA false 2 (.lc2 [("word", 4), ("letter", 5)] (.nm 4) (.seq (.var 2)) .tyes (.nm 5) (.seq (.sl (.gstr 0 [97, 98, 99, 100]) .pn (.ps (.var 0)))) .tyes (.bin .add (.bor 4) (.bor 5)))) .nil)) (.cons (.ret (.var 2)) .nil)))
def gam_all_words : Gam := ⟨[], [], []⟩
def sem_all_words : PF := semP ["letters", "n", "found", "again", "word", "letter"] 2 (evB gam_all_words il_all_words)
def il_code_of : Sx := (.cons (.ite (.tw (.tor (.tnot (.tval (.call 1 (.cons (.var 0) (.cons (.kint 2) (.cons (.cal .len (.cons (.gstr 0 [97, 98, 99, 100]) .nil)) .nil)))))) (.tor (.tnot (.tval (.call 1 (.cons (.var 1) (.cons (.kint 1) (.cons (.gint 0 99) .nil)))))) (.tone (.tcmp .eq (.bin .mod (.bor 1) (.kint 2)) (.kint 0)))))) (.cons (.raise0 "BadNumber") .nil) .nil) (.cons (.ite (.tcmp .gt (.call 0 (.cons (.var 0) (.cons (.var 1) .nil))) (.gint 2 2187)) (.cons (.raise0 "BadNumber") .nil) .nil) (.cons (.ret (.lc [("word", 2)] (.nm 2) (.seq (.call 2 (.cons (.var 0) (.cons (.var 1) .nil)))) (.tw (.tw (.tand (.tval (.call 3 (.cons (.var 2) .nil))) (.tone (.tcmp .eq (.call 4 (.cons (.var 2) .nil)) (.kint 0)))))) (.var 2))) .nil)))
def gam_code_of : Gam := ⟨[(sem_power, 2), (sem_is_integer, 3), (sem_all_words, 2), (sem_is_simple, 1), (sem_cut, 1)], [], []⟩
def sem_code_of : PF := semP ["letters", "n", "word"] 2 (evB gam_code_of il_code_of)
def il__law_alike : Sx := (.cons (.ite (.tval (.isi2 .tuple .list (.var 1))) (.cons (.ite (.tw (.tor (.tnot (.tval (.isi2 .tuple .list (.var 0)))) (.tone (.tcmp .ne (.isi .list (.bor 0)) (.isi .list (.bor 1)))))) (.cons (.ret (.kbl false)) .nil) .nil) (.cons (.ite (.tcmp .ne (.cal .len (.cons (.bor 0) .nil)) (.cal .len (.cons (.bor 1) .nil))) (.cons (.ret (.kbl false)) .nil) .nil) (.cons (.ret (.cmp .eq (.lc [("_law_k", 2)] (.nm 2) (.r1 (.cons (.cal .len (.cons (.bor 1) .nil)) .nil)) (.tw (.tnot (.tval (.call 0 (.cons (.ix (.bor 0) (.bor 2)) (.cons (.ix (.bor 1) (.bor 2)) .nil)))))) (.var 2)) (.lst .nil))) .nil))) .nil) (.cons (.ite (.tw (.tor (.tcmp .isN (.bor 1) .knon) (.tone (.tval (.isi .str (.bor 1)))))) (.cons (.ret (.andv (.cmp .eq (.bor 0) (.bor 1)) (.one (.cmp .eq (.isi .str (.bor 0)) (.isi .str (.bor 1)))))) .nil) .nil) (.cons (.ret (.andv (.isi .int (.bor 0)) (.andv (.cmp .eq (.isi .bool (.bor 0)) (.isi .bool (.bor 1))) (.one (.cmp .eq (.bor 0) (.bor 1)))))) .nil)))
def gam__law_alike (g : PF) : Gam := ⟨[(g, 2)], [], []⟩
def sem__law_alike : Nat → PF
  | 0 => fun _ => .bad
  | d + 1 => semP ["_law_found", "_law_due", "_law_k"] 2 (evB (gam__law_alike (sem__law_alike d)) il__law_alike)
def il__law_pick : Sx := (.cons (.ret (.ix (.bor 1) (.calls 0 0 (.cons (.cal .len (.cons (.bor 1) .nil)) .nil)))) .nil)
def gam__law_pick : Gam := ⟨[], [(nextS, 1)], []⟩
def sem__law_pick : SF := semS ["_law_h", "_law_things"] 1 (evB gam__law_pick il__law_pick)
def il__law_text : Sx := (.cons (.asg 3 (.kstr [])) (.cons (.for_ (.nm 4) (.r1 (.cons (.bor 2) .nil)) (.cons (.asg 3 (.bin .add (.bor 3) (.ix (.kstr [97, 98, 99, 100]) (.calls 0 0 (.cons (.var 1) .nil))))) .nil)) (.cons (.ret (.var 3)) .nil)))
def gam__law_text : Gam := ⟨[], [(nextS, 1)], []⟩
def sem__law_text : SF := semS ["_law_h", "_law_letters", "_law_many", "_law_found", "_law_at"] 2 (evB gam__law_text il__law_text)
def il__law_turns : Sx := (.cons (.ret (.lc [("_law_at", 1)] (.nm 1) (.r1 (.cons (.cal .len (.cons (.bor 0) .nil)) .nil)) .tyes (.bin .add (.sl (.bor 0) (.ps (.var 1)) .pn) (.sl (.bor 0) .pn (.ps (.var 1)))))) .nil)
def gam__law_turns : Gam := ⟨[], [], []⟩
def sem__law_turns : PF := semP ["_law_word", "_law_at"] 1 (evB gam__law_turns il__law_turns)
def il__law_simple : Sx := (.cons (.ret (.cmp .eq (.lc [("_law_turned", 1)] (.nm 1) (.seq (.slN (.call 0 (.cons (.var 0) .nil)) (.ps (.kint 1)) .pn)) (.tw (.tcmp .eq (.bor 1) (.bor 0))) (.var 1)) (.lst .nil))) .nil)
def gam__law_simple : Gam := ⟨[(sem__law_turns, 1)], [], []⟩
def sem__law_simple : PF := semP ["_law_word", "_law_turned"] 1 (evB gam__law_simple il__law_simple)
def il__law_great : Sx := (.cons (.ret (.lst (.cons (.tup (.cons (.kint 4) (.cons (.kint 1) .nil))) (.cons (.tup (.cons (.kint 4) (.cons (.kint 3) .nil))) (.cons (.tup (.cons (.kint 4) (.cons (.kint 5) .nil))) (.cons (.tup (.cons (.kint 2) (.cons (.kint 11) .nil))) (.cons (.tup (.cons (.kint 3) (.cons (.kint 7) .nil))) .nil))))))) .nil)
def gam__law_great : Gam := ⟨[], [], []⟩
def sem__law_great : PF := semP [] 0 (evB gam__law_great il__law_great)
def il_law : Sx := (.cons (.unp (.tp [7, 8]) (.calls 0 1 (.cons (.binN .cat (.lst (.cons (.tup (.cons (.kint 2) (.cons (.kint 1) .nil))) (.cons (.tup (.cons (.kint 2) (.cons (.kint 3) .nil))) (.cons (.tup (.cons (.kint 2) (.cons (.kint 5) .nil))) (.cons (.tup (.cons (.kint 2) (.cons (.kint 7) .nil))) (.cons (.tup (.cons (.kint 2) (.cons (.kint 9) .nil))) (.cons (.tup (.cons (.kint 3) (.cons (.kint 1) .nil))) (.cons (.tup (.cons (.kint 3) (.cons (.kint 3) .nil))) (.cons (.tup (.cons (.kint 3) (.cons (.kint 5) .nil))) .nil))))))))) (.ext (.call0 2) .knon .nil)) .nil))) (.cons (.asg 2 (.call 0 (.cons (.var 7) (.cons (.var 8) .nil)))) (.cons (.ite (.tw (.tor (.tnot (.tval (.isi .list (.bor 2)))) (.tor (.tcmp .ne (.cal .len (.cons (.bor 2) .nil)) (.call 3 (.cons (.var 7) (.cons (.var 8) .nil)))) (.tone (.tnot (.tval (.call 4 (.cons (.var 2) (.cons (.ext .srt .knon (.cons (.bor 2) .nil)) .nil))))))))) (.cons (.ret (.kbl false)) .nil) .nil) (.cons (.lcA false 3 (.lc [("_law_k", 9)] (.nm 9) (.r1 (.cons (.bor 8) .nil)) .tyes (.lc [("_law_word", 5)] (.nm 5) (.seq (.var 2)) .tyes (.sl (.bor 5) .pn (.ps (.var 9)))))) (.cons (.lcA false 4 (.lc [("_law_k", 9)] (.nm 9) (.r1 (.cons (.bor 8) .nil)) .tyes (.lc [("_law_word", 5)] (.nm 5) (.seq (.var 2)) .tyes (.sl (.bor 5) (.ps (.var 9)) .pn)))) (.cons (.for_ (.nm 5) (.seq (.var 2)) (.cons (.ite (.tw (.tor (.tnot (.tval (.isi .str (.bor 5)))) (.tor (.tcmp .ne (.cal .len (.cons (.bor 5) .nil)) (.bor 8)) (.tor (.tnot (.tval (.call 1 (.cons (.var 5) .nil)))) (.tone (.tcmp .ne (.call 5 (.cons (.var 5) .nil)) (.bor 5))))))) (.cons (.ret (.kbl false)) .nil) .nil) (.cons (.for_ (.nm 9) (.r2 (.cons (.kint 1) (.cons (.bor 8) .nil))) (.cons (.ite (.tw (.tand (.tcmp .inn (.sl (.bor 5) .pn (.ps (.bin .sub (.bor 8) (.bor 9)))) (.ix (.bor 4) (.bor 9))) (.tone (.tcmp .inn (.sl (.bor 5) (.ps (.bin .sub (.bor 8) (.bor 9))) .pn) (.ix (.bor 3) (.bor 9)))))) (.cons (.ret (.kbl false)) .nil) .nil) .nil)) .nil))) (.cons (.for_ (.nm 6) (.r1 (.cons (.kint 6) .nil)) (.cons (.asg 5 (.calls 1 1 (.cons (.var 7) (.cons (.var 8) .nil)))) (.cons (.ite (.tval (.call 1 (.cons (.var 5) .nil))) (.cons (.ite (.tw (.tor (.tcmp .nin (.call 5 (.cons (.var 5) .nil)) (.bor 2)) (.tone (.tcmp .ne (.cmp .inn (.bor 5) (.bor 2)) (.cmp .eq (.call 5 (.cons (.var 5) .nil)) (.bor 5)))))) (.cons (.ret (.kbl false)) .nil) .nil) .nil) .nil) .nil))) (.cons (.ret (.kbl true)) .nil))))))))
def gam_law : Gam := ⟨[(sem_code_of, 2), (sem__law_simple, 1), (sem__law_great, 0), (sem_rings, 2), ((sem__law_alike 6), 2), (sem_cut_turn, 1)], [(sem__law_pick, 1), (sem__law_text, 2)], []⟩
end Cut
namespace Cut
open PySem PySem.Spec L2
open PyProof.Rows hiding St
/-! ### the text -/
def topS (i : Nat) : Stmt := PySem.Challenge.pw_cutanywhere_k06_whole_codes_of_rings.main.body.getD i (.Pass ⟨0, 0, 0, 0⟩)
abbrev s_is_integer : Stmt := topS 6
abbrev s_is_string : Stmt := topS 7
abbrev s_turn : Stmt := topS 12
abbrev s_check_ring : Stmt := topS 13
abbrev s_is_simple : Stmt := topS 14
abbrev s_joined : Stmt := topS 15
abbrev s_cut : Stmt := topS 16
abbrev s_cut_turn : Stmt := topS 17
abbrev s_power : Stmt := topS 18
abbrev s_sign_of : Stmt := topS 19
abbrev s_rings : Stmt := topS 20
abbrev s_all_words : Stmt := topS 21
abbrev s_code_of : Stmt := topS 22
abbrev s__law_mix : Stmt := topS 24
abbrev s__law_next : Stmt := topS 25
abbrev s__law_alike : Stmt := topS 26
abbrev s__law_pick : Stmt := topS 27
abbrev s__law_text : Stmt := topS 28
abbrev s__law_turns : Stmt := topS 29
abbrev s__law_simple : Stmt := topS 30
abbrev s__law_great : Stmt := topS 31
abbrev s_law : Stmt := topS 32
theorem sc_is_integer : FnScope ["thing", "low", "high"] ["thing", "low", "high"] (defScope s_is_integer) := ⟨rfl, rfl, rfl, by decide +kernel, rfl, by decide +kernel, by decide +kernel⟩
theorem sc_is_string : FnScope ["thing", "letters", "letter"] ["thing", "letters"] (defScope s_is_string) := ⟨rfl, rfl, rfl, by decide +kernel, rfl, by decide +kernel, by decide +kernel⟩
theorem sc_turn : FnScope ["word", "at"] ["word", "at"] (defScope s_turn) := ⟨rfl, rfl, rfl, by decide +kernel, rfl, by decide +kernel, by decide +kernel⟩
theorem sc_check_ring : FnScope ["thing"] ["thing"] (defScope s_check_ring) := ⟨rfl, rfl, rfl, by decide +kernel, rfl, by decide +kernel, by decide +kernel⟩
theorem sc_is_simple : FnScope ["word", "at"] ["word"] (defScope s_is_simple) := ⟨rfl, rfl, rfl, by decide +kernel, rfl, by decide +kernel, by decide +kernel⟩
theorem sc_joined : FnScope ["pieces", "least", "begin", "found", "at", "text"] ["pieces", "least"] (defScope s_joined) := ⟨rfl, rfl, rfl, by decide +kernel, rfl, by decide +kernel, by decide +kernel⟩
theorem sc_cut : FnScope ["word", "pieces", "odd", "at", "letter", "text"] ["word"] (defScope s_cut) := ⟨rfl, rfl, rfl, by decide +kernel, rfl, by decide +kernel, by decide +kernel⟩
theorem sc_cut_turn : FnScope ["word"] ["word"] (defScope s_cut_turn) := ⟨rfl, rfl, rfl, by decide +kernel, rfl, by decide +kernel, by decide +kernel⟩
theorem sc_power : FnScope ["one", "times", "found", "again"] ["one", "times"] (defScope s_power) := ⟨rfl, rfl, rfl, by decide +kernel, rfl, by decide +kernel, by decide +kernel⟩
theorem sc_sign_of : FnScope ["n", "found", "prime"] ["n"] (defScope s_sign_of) := ⟨rfl, rfl, rfl, by decide +kernel, rfl, by decide +kernel, by decide +kernel⟩
theorem sc_rings : FnScope ["letters", "n", "part"] ["letters", "n"] (defScope s_rings) := ⟨rfl, rfl, rfl, by decide +kernel, rfl, by decide +kernel, by decide +kernel⟩
theorem sc_all_words : FnScope ["letters", "n", "found", "again", "word", "letter"] ["letters", "n"] (defScope s_all_words) := ⟨rfl, rfl, rfl, by decide +kernel, rfl, by decide +kernel, by decide +kernel⟩
theorem sc_code_of : FnScope ["letters", "n", "word"] ["letters", "n"] (defScope s_code_of) := ⟨rfl, rfl, rfl, by decide +kernel, rfl, by decide +kernel, by decide +kernel⟩
theorem sc__law_mix : FnScope ["_law_script", "_law_seed", "_law_state", "_law_cell"] ["_law_script", "_law_seed"] (defScope s__law_mix) := ⟨rfl, rfl, rfl, by decide +kernel, rfl, by decide +kernel, by decide +kernel⟩
theorem sc__law_next : FnScope ["_law_h", "_law_cap", "_law_cell"] ["_law_h", "_law_cap"] (defScope s__law_next) := ⟨rfl, rfl, rfl, by decide +kernel, rfl, by decide +kernel, by decide +kernel⟩
theorem sc__law_alike : FnScope ["_law_found", "_law_due", "_law_k"] ["_law_found", "_law_due"] (defScope s__law_alike) := ⟨rfl, rfl, rfl, by decide +kernel, rfl, by decide +kernel, by decide +kernel⟩
theorem sc__law_pick : FnScope ["_law_h", "_law_things"] ["_law_h", "_law_things"] (defScope s__law_pick) := ⟨rfl, rfl, rfl, by decide +kernel, rfl, by decide +kernel, by decide +kernel⟩
theorem sc__law_text : FnScope ["_law_h", "_law_letters", "_law_many", "_law_found", "_law_at"] ["_law_h", "_law_letters", "_law_many"] (defScope s__law_text) := ⟨rfl, rfl, rfl, by decide +kernel, rfl, by decide +kernel, by decide +kernel⟩
theorem sc__law_turns : FnScope ["_law_word", "_law_at"] ["_law_word"] (defScope s__law_turns) := ⟨rfl, rfl, rfl, by decide +kernel, rfl, by decide +kernel, by decide +kernel⟩
theorem sc__law_simple : FnScope ["_law_word", "_law_turned"] ["_law_word"] (defScope s__law_simple) := ⟨rfl, rfl, rfl, by decide +kernel, rfl, by decide +kernel, by decide +kernel⟩
theorem sc__law_great : FnScope [] [] (defScope s__law_great) := ⟨rfl, rfl, rfl, by decide +kernel, rfl, by decide +kernel, by decide +kernel⟩
theorem sc_law : FnScope ["_law_script", "_law_h", "_law_found", "_law_heads", "_law_tails", "_law_word", "_law_again", "_law_letters", "_law_n", "_law_k"] ["_law_script"] (defScope s_law) := ⟨rfl, rfl, rfl, by decide +kernel, rfl, by decide +kernel, by decide +kernel⟩
section
variable {P : Program} {w : World} {K : PySem.W.Frag} {mg : Str → Option Value} {base : Heap} {cc : Addr}
theorem ok_next {f : Addr} {fd : FuncData} {k : Nat} (F : Fun K "_law_next" "_law_next" s__law_next f fd) (ml : mg "len" = none) (mi : mg "int" = none) (mm : mg "max" = none) :
    FnOk P w K mg base (L2.CX P w) (k + 1) f fd ["_law_h", "_law_cap"] (spS mg K cc nextS 1) := by
  refine F.okX sc__law_next (fun vs H Q E h => ?_) (fun cdv A outer s H vs Q E hr h => ?_)
  · obtain ⟨F, ds, a, b, sr, us, rfl, _, _, _, _, r, hl, _⟩ := h
    rw [List.length_cons, r.len, hl]; rfl
  · obtain ⟨F0, ds, a, b, sr, us, rfl, sm, fa, fb, ⟨nab, ha, hb⟩, r, hl, q⟩ := h
    have hds : ∃ cap, ds = [.int cap] ∧ (sr.ok ∧ 0 < cap ∧ cap < 1073741824) := by
      cases ds with
      | nil => exact absurd hl (by simp)
      | cons d rr => cases rr with
        | cons _ _ => exact absurd hl (by simp)
        | nil => cases d with
          | int cap =>
            refine ⟨cap, rfl, ?_⟩
            by_cases hok : sr.ok ∧ 0 < cap ∧ cap < 1073741824
            · exact hok
            · unfold nextS at q
              dsimp only at q
              rw [if_neg hok] at q
              exact q.elim
          | _ => exact q.elim
    obtain ⟨cap, rfl, hok⟩ := hds
    unfold nextS at q
    dsimp only at q
    rw [if_pos hok] at q
    obtain ⟨⟨k0, k1, k2, k3⟩, c0, c1⟩ := hok
    obtain ⟨v, r', rfl, hv, hn⟩ := reps_cons.mp r
    rw [reps_nil] at hn
    subst hn
    unfold Rep at hv
    subst hv
    refine ⟨_, pss_cons (ps_set (i := 2) sc__law_next.nd rfl (.inl rfl) (pe_ix ix_list (pe_op op_cat (pe_ix ix_list (pv 0) pe_int (fun _ _ => rfl)) (pe_lst (pa_cons pe_int pa_nil)))
            (pe_op op_mod (pe_callTy call_int1 (by rfl) mi boot_int (pa_cons (pe_ix ix_list (pv 0) pe_int (fun _ _ => rfl)) pa_nil)) (pe_callB (call_max2 rfl) (by rfl) mm (boot_bi .max) (pa_cons pe_int (pa_cons (pe_callB call_len_seq (by rfl) ml PySem.boot_len (pa_cons (pe_ix ix_list (pv 0) pe_int (fun _ _ => rfl)) pa_nil)) pa_nil)))) (fun _ _ => rfl)))
          (pss_cons (ps_if (pt_cmpR op_ge (pv 2) (pe_op op_pow pe_int pe_int) (nomark _))
            (pss_cons (ps_asg (pe_op op_fdiv (pv 2) (pv 1)) (pg_sub (pe_ix ix_list (pv 0) pe_int (fun _ _ => rfl)) (pe_op op_mod (pe_callTy call_int1 (by rfl) mi boot_int (pa_cons (pe_ix ix_list (pv 0) pe_int (fun _ _ => rfl)) pa_nil)) (pe_callB call_len_seq (by rfl) ml PySem.boot_len (pa_cons (pe_ix ix_list (pv 0) pe_int (fun _ _ => rfl)) pa_nil))) set_list))
              (pss_one (ps_ret (pe_op op_mod (pe_callTy call_int1 (by rfl) mi boot_int (pa_cons (pv 2) pa_nil)) (pv 1))))) pss_nil)
          (pss_cons (ps_asg (pe_op op_mod (pe_callTy call_int1 (by rfl) mi boot_int (pa_cons (pe_op op_add (pe_op op_add (pe_op op_mul (pe_ix ix_list (pv 0) pe_int (fun _ _ => rfl)) pe_int) (pe_op op_mul (pv 2) pe_int)) pe_int) pa_nil)) pe_int) (pg_sub (pv 0) pe_int set_list))
          (pss_cons (ps_asg (pe_op op_add (pe_ix ix_list (pv 0) pe_int (fun _ _ => rfl)) pe_int) (pg_sub (pv 0) pe_int set_list))
          (pss_one (ps_ret (pe_op op_mod (pe_callTy call_int1 (by rfl) mi boot_int (pa_cons (pe_op op_fdiv (pe_ix ix_list (pv 0) pe_int (fun _ _ => rfl)) pe_int) pa_nil)) (pv 1))))))), ?_⟩
    -- _law_cell
    refine ⟨.ref a, rfl, a, _, 1, .ref b, rfl, rfl, .of ha, rfl, by decide, fun p1 n1 => ?_⟩
    have u1 : ∀ {c : Addr} {o : HO}, H c = some o → upd H p1 (.lst [.int 0]) c = some o := fun e => by rw [upd_ne (ne_of_none e n1)]; exact e
    refine ⟨b, p1, _, _, rfl, rfl, u1 hb, upd_same, ?_, fun p2 n2 => ?_⟩
    · rw [List.length_map, sizeLine_eq]
      show sr.cells.length + 1 ≤ _
      omega
    have u2 : ∀ {c : Addr} {o : HO}, H c = some o → upd (upd H p1 (.lst [.int 0])) p2 (.lst (sr.cells.map V.int ++ [.int 0])) c = some o := fun e => by rw [upd_ne (ne_of_none (u1 e) n2)]; exact u1 e
    generalize hH2 : upd (upd H p1 (.lst [.int 0])) p2 (.lst (sr.cells.map V.int ++ [.int 0])) = H2 at u2 ⊢
    have hp2 : H2 p2 = some (.lst (sr.cells.map V.int ++ [.int 0])) := by rw [← hH2]; exact upd_same
    have fH2 : Same F0 H2 := fun c o e => u2 (sm c o e)
    refine ⟨.ref a, rfl, a, _, 2, .int sr.k, rfl, rfl, .of (u2 ha), rfl, .inl ⟨_, rfl, ?_⟩⟩
    refine ⟨.ref a, rfl, a, _, 1, .ref b, rfl, rfl, .of (u2 ha), rfl, b, _, rfl, .inl (.of (u2 hb)), 1, _, rfl, ?_⟩
    have em : (if ((sr.cells.map V.int).length : Int) > 1 then ((sr.cells.map V.int).length : Int) else 1) = max 1 (sr.cells.length : Int) := by
      rw [List.length_map]
      split <;> omega
    rw [em]
    obtain ⟨at1, at2⟩ := sr.at_lt k2
    refine ⟨sr.k, _, rfl, rfl, by omega, ?_⟩
    have ecell : (sr.cells.map V.int ++ [V.int 0])[sr.at]? = some (.int sr.cell) := by
      have : (sr.cells ++ [0])[sr.at]? = some sr.cell := by
        unfold Src.cell
        rw [List.getD_eq_getElem?_getD, List.getElem?_eq_getElem at1]; rfl
      have e2 : sr.cells.map V.int ++ [V.int 0] = (sr.cells ++ [0]).map V.int := by simp
      rw [e2, List.getElem?_map, this]; rfl
    refine ⟨p2, _, _, .int sr.cell, rfl, rfl, .of hp2, ?_, ?_⟩
    · rw [← at2]; exact atI_nat ecell
    -- if _law_cell >= 10 ** 18
    refine ⟨.int sr.cell, rfl, 10, 18, rfl, rfl, ⟨by decide, by decide, by decide⟩, sr.cell, _, rfl, rfl, _, rfl, ?_⟩
    have keep2 : ∀ {H3 : Hp}, (∀ c o, c ≠ a → c ≠ b → H2 c = some o → H3 c = some o) → GrS a b F0 H F0 H3 := fun {H3} k => ⟨Same.refl _, fun c o n1 n2 e => k c o n1 n2 (u2 e), fun c o e => by
      have na : c ≠ a := ne_of_none e fa
      have nb : c ≠ b := ne_of_none e fb
      exact k c o na nb (u2 (sm c o e)), fun c o e => .inl e⟩
    refine ite2 (fun hge => ?_) (fun hlt => ?_)
    · have hge : (1000000000000000000 : Int) ≤ sr.cell := by simpa using hge
      have enx : sr.next cap = (sr.cell % cap, { sr with cells := sr.cells.set sr.at (sr.cell / cap) }) := by
        unfold Src.next; rw [if_pos hge]
      rw [enx] at q
      have hcl : sr.at < sr.cells.length := by
        rw [List.length_append] at at1
        by_cases hh : sr.at < sr.cells.length
        · exact hh
        · have e3 : sr.at = sr.cells.length := by simp at at1; omega
          have : sr.cell = 0 := by
            unfold Src.cell
            rw [e3]; simp
          omega
      have hmx : max 1 (sr.cells.length : Int) = sr.cells.length := by omega
      refine ⟨.int sr.cell, rfl, .int cap, rfl, _, _, rfl, rfl, ⟨c0, c1⟩, ?_⟩
      refine ⟨.ref a, rfl, a, _, 1, .ref b, rfl, rfl, .of (u2 ha), rfl, ?_⟩
      refine ⟨.ref a, rfl, a, _, 2, .int sr.k, rfl, rfl, .of (u2 ha), rfl, .inl ⟨_, rfl, ?_⟩⟩
      refine ⟨.ref a, rfl, a, _, 1, .ref b, rfl, rfl, .of (u2 ha), rfl, b, _, rfl, .inl (.of (u2 hb)), sr.k, _, rfl, rfl, by rw [List.length_map]; omega, ?_⟩
      refine ⟨b, _, _, sr.at, rfl, rfl, u2 hb, ?_, ?_⟩
      · rw [List.length_map, ← hmx, ← at2]
        unfold ixN
        rw [if_pos (by omega), if_pos (by omega)]; simp
      refine ⟨.int sr.cell, rfl, .inl ⟨_, rfl, .int cap, rfl, _, _, rfl, rfl, c0, ?_⟩⟩
      refine q F0 _ _ (keep2 fun c o n1 n2 e => by rw [upd_ne n2]; exact e) ⟨nab, by rw [upd_ne nab]; exact u2 ha, ?_⟩ rep_int
      rw [upd_same, List.map_set]
    · have hlt : ¬ (1000000000000000000 : Int) ≤ sr.cell := by simpa using hlt
      have enx : sr.next cap = (((sr.st * 48271 + sr.cell * 69621 + 11) % 2147483647 / 7) % cap, ⟨(sr.st * 48271 + sr.cell * 69621 + 11) % 2147483647, sr.cells, sr.k + 1⟩) := by
        unfold Src.next; rw [if_neg hlt]
      rw [enx] at q
      refine ⟨.ref a, rfl, a, _, 0, .int sr.st, rfl, rfl, .of (u2 ha), rfl, _, _, rfl, rfl, .inr ⟨by decide, by decide⟩, ?_⟩
      refine ⟨.int sr.cell, rfl, _, _, rfl, rfl, .inr ⟨by decide, by decide⟩, _, _, rfl, rfl, _, _, rfl, rfl, .inl ⟨_, rfl, _, _, rfl, rfl, by show (0 : Int) < 2147483647; decide, ?_⟩⟩
      refine ⟨.ref a, rfl, a, _, 0, 0, rfl, rfl, u2 ha, rfl, ?_⟩
      refine ⟨.ref a, rfl, a, _, 2, .int sr.k, rfl, rfl, .of upd_same, rfl, _, _, rfl, rfl, ?_⟩
      refine ⟨.ref a, rfl, a, _, 2, 2, rfl, rfl, upd_same, rfl, ?_⟩
      refine ⟨.ref a, rfl, a, _, 0, _, rfl, rfl, .of upd_same, rfl, _, _, rfl, rfl, ⟨by decide, by decide⟩, .inl ⟨_, rfl, .int cap, rfl, _, _, rfl, rfl, c0, ?_⟩⟩
      refine q F0 _ _ (keep2 fun c o n1 n2 e => by rw [upd_ne n1, upd_ne n1]; exact e) ⟨nab, upd_same, ?_⟩ rep_int
      rw [upd_ne nab.symm, upd_ne nab.symm]
      exact u2 hb
end
section
variable {P : Program} {w : World} {K : PySem.W.Frag} {mg : Str → Option Value} {base : Heap} {cc : Addr}
theorem ok_mix {f : Addr} {fd : FuncData} {k : Nat} (F : Fun K "_law_mix" "_law_mix" s__law_mix f fd) (mi : mg "int" = none) (ml : mg "list" = none) :
    FnOk P w K mg base (L2.CX P w) (k + 1) f fd ["_law_script", "_law_seed"] (spMix K) := by
  refine F.okX sc__law_mix (fun vs H Q E h => ?_) (fun cdv A outer s H vs Q E hr h => ?_)
  · obtain ⟨sc, ns, seed, rfl, _⟩ := h; rfl
  · obtain ⟨sc, ns, seed, rfl, hS, hlen, s0, s1, q⟩ := h
    refine ⟨_, pss_cons (ps_set (i := 2) sc__law_mix.nd rfl (.inl rfl) (pv 1))
      (pss_cons (ps_for (passes_of rfl) rfl (pi_list (pv 0)) (pg_name (i := 3) sc__law_mix.nd rfl (.inl rfl))
        (pss_one (ps_set (i := 2) sc__law_mix.nd rfl (.inl rfl) (pe_op op_mod (pe_callTy call_int1 (by rfl) mi boot_int (pa_cons (pe_op op_add (pe_op op_add (pe_op op_mul (pv 2) pe_int) (pe_op op_mod (pe_callTy call_int1 (by rfl) mi boot_int (pa_cons (pv 3) pa_nil)) pe_int)) pe_int) pa_nil)) pe_int))))
      (pss_one (ps_ret (pe_lst (pa_cons (pv 2) (pa_cons (pe_callTy call_list_of (by rfl) ml boot_list (pa_cons (pv 0) pa_nil)) (pa_cons pe_int pa_nil))))))), ?_⟩
    refine ⟨.int seed, rfl, .ref sc, rfl, sc, rfl, ⟨_, hS⟩, for_list (xs := ns.map V.int) (fun i σ H3 => ∃ st y, σ = [some (.ref sc), some (.int seed), some (.int st), y] ∧ H3 = H ∧ 0 ≤ st ∧ st < 2147483647) ⟨seed, none, rfl, rfl, s0, s1⟩ (fun i σ H3 _ h => by obtain ⟨_, _, _, rfl, _⟩ := h; exact hS) (fun i x σ H3 hx h => ?_) (fun σ H3 h => ?_)⟩
    · obtain ⟨st, y, rfl, rfl, h0, h1⟩ := h
      rw [List.getElem?_map] at hx
      obtain ⟨n, hn, rfl⟩ := Option.map_eq_some_iff.mp hx
      refine ⟨.int st, rfl, _, _, rfl, rfl, .inr ⟨by decide, by decide⟩, .int n, rfl, .inl ⟨_, rfl, _, _, rfl, rfl, by show (0 : Int) < 2147483629; decide, ?_⟩⟩
      refine ⟨_, _, rfl, rfl, _, _, rfl, rfl, .inl ⟨_, rfl, _, _, rfl, rfl, by show (0 : Int) < 2147483647; decide, ?_⟩⟩
      exact ⟨_, _, rfl, rfl, Int.emod_nonneg _ (by decide), Int.emod_lt_of_pos _ (by decide)⟩
    · obtain ⟨st, y, rfl, rfl, h0, h1⟩ := h
      refine ⟨.int st, rfl, .ref sc, rfl, sc, _, rfl, .inl hS, fun b nb => ?_⟩
      refine ⟨by show 3 ≤ sizeLine; decide, fun a na => ?_⟩
      have nab : a ≠ b := fun e => by rw [e, upd_same] at na; cases na
      have ha0 : H3 a = none := by rw [upd_ne nab] at na; exact na
      refine q _ a b ⟨st, ns, 0⟩ (fun c o e => ?_) ha0 nb ⟨nab, upd_same, ?_⟩ ⟨h0, h1, Int.le_refl 0, by show ns.length ≤ 1000; omega⟩
      · rw [upd_ne (ne_of_none e ha0), upd_ne (ne_of_none e nb)]; exact e
      · rw [upd_ne nab.symm, upd_same]
end
/-! ### what the top has written -/
structure Txt (K : PySem.W.Frag) (mg : Str → Option Value) (cc : Addr) : Prop where
  d_is_integer : ∃ f fd, Fun K "is_integer" "is_integer" s_is_integer f fd ∧ mg "is_integer" = some (.ref f)
  d_is_string : ∃ f fd, Fun K "is_string" "is_string" s_is_string f fd ∧ mg "is_string" = some (.ref f)
  d_turn : ∃ f fd, Fun K "turn" "turn" s_turn f fd ∧ mg "turn" = some (.ref f)
  d_check_ring : ∃ f fd, Fun K "check_ring" "check_ring" s_check_ring f fd ∧ mg "check_ring" = some (.ref f)
  d_is_simple : ∃ f fd, Fun K "is_simple" "is_simple" s_is_simple f fd ∧ mg "is_simple" = some (.ref f)
  d_joined : ∃ f fd, Fun K "joined" "joined" s_joined f fd ∧ mg "joined" = some (.ref f)
  d_cut : ∃ f fd, Fun K "cut" "cut" s_cut f fd ∧ mg "cut" = some (.ref f)
  d_cut_turn : ∃ f fd, Fun K "cut_turn" "cut_turn" s_cut_turn f fd ∧ mg "cut_turn" = some (.ref f)
  d_power : ∃ f fd, Fun K "power" "power" s_power f fd ∧ mg "power" = some (.ref f)
  d_sign_of : ∃ f fd, Fun K "sign_of" "sign_of" s_sign_of f fd ∧ mg "sign_of" = some (.ref f)
  d_rings : ∃ f fd, Fun K "rings" "rings" s_rings f fd ∧ mg "rings" = some (.ref f)
  d_all_words : ∃ f fd, Fun K "all_words" "all_words" s_all_words f fd ∧ mg "all_words" = some (.ref f)
  d_code_of : ∃ f fd, Fun K "code_of" "code_of" s_code_of f fd ∧ mg "code_of" = some (.ref f)
  d__law_mix : ∃ f fd, Fun K "_law_mix" "_law_mix" s__law_mix f fd ∧ mg "_law_mix" = some (.ref f)
  d__law_next : ∃ f fd, Fun K "_law_next" "_law_next" s__law_next f fd ∧ mg "_law_next" = some (.ref f)
  d__law_alike : ∃ f fd, Fun K "_law_alike" "_law_alike" s__law_alike f fd ∧ mg "_law_alike" = some (.ref f)
  d__law_pick : ∃ f fd, Fun K "_law_pick" "_law_pick" s__law_pick f fd ∧ mg "_law_pick" = some (.ref f)
  d__law_text : ∃ f fd, Fun K "_law_text" "_law_text" s__law_text f fd ∧ mg "_law_text" = some (.ref f)
  d__law_turns : ∃ f fd, Fun K "_law_turns" "_law_turns" s__law_turns f fd ∧ mg "_law_turns" = some (.ref f)
  d__law_simple : ∃ f fd, Fun K "_law_simple" "_law_simple" s__law_simple f fd ∧ mg "_law_simple" = some (.ref f)
  d__law_great : ∃ f fd, Fun K "_law_great" "_law_great" s__law_great f fd ∧ mg "_law_great" = some (.ref f)
  d_law : ∃ f fd, Fun K "law" "law" s_law f fd ∧ mg "law" = some (.ref f)
  b_len : mg "len" = none
  b_all : mg "all" = none
  b_sum : mg "sum" = none
  b_max : mg "max" = none
  b_min : mg "min" = none
  b_list : mg "list" = none
  b_tuple : mg "tuple" = none
  b_int : mg "int" = none
  b_isinstance : mg "isinstance" = none
  b_range : mg "range" = none
  b_str : mg "str" = none
  b_bool : mg "bool" = none
  b_enumerate : mg "enumerate" = none
  b_sorted : mg "sorted" = none
  c_MOST_RING : ∃ t, mg "MOST_RING" = some (.int 99 t)
  c_MOST_COUNTED : ∃ t, mg "MOST_COUNTED" = some (.int 200 t)
  c_MOST_LISTED : ∃ t, mg "MOST_LISTED" = some (.int 2187 t)
  c_ALL : ∃ t, mg "ALL" = some (.str (S [97, 98, 99, 100]) t)
  e_BadNumber : ∃ C, mg "BadNumber" = some (.ref C) ∧ ErrC K C
  e_BadWord : ∃ C, mg "BadWord" = some (.ref C) ∧ ErrC K C
section
variable {P : Program} {w : World} {K : PySem.W.Frag} {mg : Str → Option Value} {base : Heap} {cc : Addr}
theorem facts_of (T : Txt K mg cc) {k : Nat} {p s m : List (Str × Nat)} {q : List (Str × Fl)} {Γ : Gam} (hp : ∀ (j : Nat) x n, p[j]? = some (x, n) → GoodP P w K mg base cc k x (Γ.pf j).1 (Γ.pf j).2) (hs : ∀ (j : Nat) x n, s[j]? = some (x, n) → GoodS P w K mg base cc k x (Γ.sf j).1 (Γ.sf j).2) (hm : ∀ (j : Nat) x n, m[j]? = some (x, n) → ∃ k', k' + 1 ≤ k ∧ GoodM P w K mg base cc k' x (Γ.mf j).1 (Γ.mf j).2) (hq : ∀ x f, (x, f) ∈ q → ∃ k', k' + 1 ≤ k ∧ GoodPr P w K mg base cc k' x f) : Facts P w K mg base cc k (tbl p s m q) errs Γ where
  gi := fun j x i h => by
    match j, h with
    | 0, h => cases h; obtain ⟨t, e⟩ := T.c_MOST_RING; exact ⟨_, e, t, rfl⟩
    | 1, h => cases h; obtain ⟨t, e⟩ := T.c_MOST_COUNTED; exact ⟨_, e, t, rfl⟩
    | 2, h => cases h; obtain ⟨t, e⟩ := T.c_MOST_LISTED; exact ⟨_, e, t, rfl⟩
    | _ + 3, h => cases h
  gs := fun j x w h => by
    match j, h with
    | 0, h => cases h; obtain ⟨t, e⟩ := T.c_ALL; exact ⟨_, e, t, rfl⟩
    | _ + 1, h => cases h
  pf := hp
  sf := hs
  mks := hm
  pr := hq
  cd := fun h => Bool.noConfusion (show false = true from h)
  bl := fun x h => by
    simp only [tbl, List.mem_cons, List.not_mem_nil, or_false] at h
    rcases h with rfl | rfl | rfl | rfl | rfl | rfl | rfl | rfl | rfl | rfl | rfl | rfl | rfl | rfl
    · exact T.b_len
    · exact T.b_all
    · exact T.b_sum
    · exact T.b_max
    · exact T.b_min
    · exact T.b_list
    · exact T.b_tuple
    · exact T.b_int
    · exact T.b_isinstance
    · exact T.b_range
    · exact T.b_str
    · exact T.b_bool
    · exact T.b_enumerate
    · exact T.b_sorted
  er := fun x h => by
    simp only [errs, List.mem_cons, List.not_mem_nil, or_false] at h
    rcases h with rfl | rfl
    · exact T.e_BadNumber
    · exact T.e_BadWord
theorem good_is_integer (T : Txt K mg cc) : GoodP P w K mg base cc 1 "is_integer" sem_is_integer 3 := by
  obtain ⟨f, fd, F, g⟩ := T.d_is_integer
  refine ⟨f, fd, ["thing", "low", "high"], g, fn_pure il_is_integer (tb := tbl [] [] [] []) (ex := errs) (Γ := gam_is_integer) F sc_is_integer rfl (by decide) (by decide +kernel) (facts_of T (fun j x n h => by
      match j, h with
      | _, h => cases h) (fun j x n h => by
      match j, h with
      | _, h => cases h) (fun j x n h => by cases h) (fun x f h => by cases h)), F.kp, F.binds (ps := ["thing", "low", "high"]) fun _ _ _ _ _ _ us hl => match us, hl with | [_, _, _], _ => rfl⟩
theorem good_is_string (T : Txt K mg cc) : GoodP P w K mg base cc 1 "is_string" sem_is_string 2 := by
  obtain ⟨f, fd, F, g⟩ := T.d_is_string
  refine ⟨f, fd, ["thing", "letters"], g, fn_pure il_is_string (tb := tbl [] [] [] []) (ex := errs) (Γ := gam_is_string) F sc_is_string rfl (by decide) (by decide +kernel) (facts_of T (fun j x n h => by
      match j, h with
      | _, h => cases h) (fun j x n h => by
      match j, h with
      | _, h => cases h) (fun j x n h => by cases h) (fun x f h => by cases h)), F.kp, F.binds (ps := ["thing", "letters"]) fun _ _ _ _ _ _ us hl => match us, hl with | [_, _], _ => rfl⟩
theorem good_turn (T : Txt K mg cc) : GoodP P w K mg base cc 1 "turn" sem_turn 2 := by
  obtain ⟨f, fd, F, g⟩ := T.d_turn
  refine ⟨f, fd, ["word", "at"], g, fn_pure il_turn (tb := tbl [] [] [] []) (ex := errs) (Γ := gam_turn) F sc_turn rfl (by decide) (by decide +kernel) (facts_of T (fun j x n h => by
      match j, h with
      | _, h => cases h) (fun j x n h => by
      match j, h with
      | _, h => cases h) (fun j x n h => by cases h) (fun x f h => by cases h)), F.kp, F.binds (ps := ["word", "at"]) fun _ _ _ _ _ _ us hl => match us, hl with | [_, _], _ => rfl⟩
theorem good_check_ring (T : Txt K mg cc) : GoodP P w K mg base cc 2 "check_ring" sem_check_ring 1 := by
  obtain ⟨f, fd, F, g⟩ := T.d_check_ring
  refine ⟨f, fd, ["thing"], g, fn_pure il_check_ring (tb := tbl [("is_string", 2)] [] [] []) (ex := errs) (Γ := gam_check_ring) F sc_check_ring rfl (by decide) (by decide +kernel) (facts_of T (fun j x n h => by
      match j, h with
      | 0, h => cases h; exact (good_is_string T).up (by decide)
      | _ + 1, h => cases h) (fun j x n h => by
      match j, h with
      | _, h => cases h) (fun j x n h => by cases h) (fun x f h => by cases h)), F.kp, F.binds (ps := ["thing"]) fun _ _ _ _ _ _ us hl => match us, hl with | [_], _ => rfl⟩
theorem good_is_simple (T : Txt K mg cc) : GoodP P w K mg base cc 3 "is_simple" sem_is_simple 1 := by
  obtain ⟨f, fd, F, g⟩ := T.d_is_simple
  refine ⟨f, fd, ["word"], g, fn_pure il_is_simple (tb := tbl [("check_ring", 1), ("turn", 2)] [] [] []) (ex := errs) (Γ := gam_is_simple) F sc_is_simple rfl (by decide) (by decide +kernel) (facts_of T (fun j x n h => by
      match j, h with
      | 0, h => cases h; exact (good_check_ring T).up (by decide)
      | 1, h => cases h; exact (good_turn T).up (by decide)
      | _ + 2, h => cases h) (fun j x n h => by
      match j, h with
      | _, h => cases h) (fun j x n h => by cases h) (fun x f h => by cases h)), F.kp, F.binds (ps := ["word"]) fun _ _ _ _ _ _ us hl => match us, hl with | [_], _ => rfl⟩
theorem good_joined (T : Txt K mg cc) : GoodP P w K mg base cc 1 "joined" sem_joined 2 := by
  obtain ⟨f, fd, F, g⟩ := T.d_joined
  refine ⟨f, fd, ["pieces", "least"], g, fn_pure il_joined (tb := tbl [] [] [] []) (ex := errs) (Γ := gam_joined) F sc_joined rfl (by decide) (by decide +kernel) (facts_of T (fun j x n h => by
      match j, h with
      | _, h => cases h) (fun j x n h => by
      match j, h with
      | _, h => cases h) (fun j x n h => by cases h) (fun x f h => by cases h)), F.kp, F.binds (ps := ["pieces", "least"]) fun _ _ _ _ _ _ us hl => match us, hl with | [_, _], _ => rfl⟩
theorem good_cut (T : Txt K mg cc) : GoodP P w K mg base cc 4 "cut" sem_cut 1 := by
  obtain ⟨f, fd, F, g⟩ := T.d_cut
  refine ⟨f, fd, ["word"], g, fn_pure il_cut (tb := tbl [("check_ring", 1), ("joined", 2), ("is_simple", 1)] [] [] []) (ex := errs) (Γ := gam_cut) F sc_cut rfl (by decide) (by decide +kernel) (facts_of T (fun j x n h => by
      match j, h with
      | 0, h => cases h; exact (good_check_ring T).up (by decide)
      | 1, h => cases h; exact (good_joined T).up (by decide)
      | 2, h => cases h; exact (good_is_simple T).up (by decide)
      | _ + 3, h => cases h) (fun j x n h => by
      match j, h with
      | _, h => cases h) (fun j x n h => by cases h) (fun x f h => by cases h)), F.kp, F.binds (ps := ["word"]) fun _ _ _ _ _ _ us hl => match us, hl with | [_], _ => rfl⟩
theorem good_cut_turn (T : Txt K mg cc) : GoodP P w K mg base cc 5 "cut_turn" sem_cut_turn 1 := by
  obtain ⟨f, fd, F, g⟩ := T.d_cut_turn
  refine ⟨f, fd, ["word"], g, fn_pure il_cut_turn (tb := tbl [("turn", 2), ("cut", 1)] [] [] []) (ex := errs) (Γ := gam_cut_turn) F sc_cut_turn rfl (by decide) (by decide +kernel) (facts_of T (fun j x n h => by
      match j, h with
      | 0, h => cases h; exact (good_turn T).up (by decide)
      | 1, h => cases h; exact (good_cut T).up (by decide)
      | _ + 2, h => cases h) (fun j x n h => by
      match j, h with
      | _, h => cases h) (fun j x n h => by cases h) (fun x f h => by cases h)), F.kp, F.binds (ps := ["word"]) fun _ _ _ _ _ _ us hl => match us, hl with | [_], _ => rfl⟩
theorem good_power (T : Txt K mg cc) : GoodP P w K mg base cc 1 "power" sem_power 2 := by
  obtain ⟨f, fd, F, g⟩ := T.d_power
  refine ⟨f, fd, ["one", "times"], g, fn_pure il_power (tb := tbl [] [] [] []) (ex := errs) (Γ := gam_power) F sc_power rfl (by decide) (by decide +kernel) (facts_of T (fun j x n h => by
      match j, h with
      | _, h => cases h) (fun j x n h => by
      match j, h with
      | _, h => cases h) (fun j x n h => by cases h) (fun x f h => by cases h)), F.kp, F.binds (ps := ["one", "times"]) fun _ _ _ _ _ _ us hl => match us, hl with | [_, _], _ => rfl⟩
theorem good_sign_of (T : Txt K mg cc) : GoodP P w K mg base cc 1 "sign_of" sem_sign_of 1 := by
  obtain ⟨f, fd, F, g⟩ := T.d_sign_of
  refine ⟨f, fd, ["n"], g, fn_pure il_sign_of (tb := tbl [] [] [] []) (ex := errs) (Γ := gam_sign_of) F sc_sign_of rfl (by decide) (by decide +kernel) (facts_of T (fun j x n h => by
      match j, h with
      | _, h => cases h) (fun j x n h => by
      match j, h with
      | _, h => cases h) (fun j x n h => by cases h) (fun x f h => by cases h)), F.kp, F.binds (ps := ["n"]) fun _ _ _ _ _ _ us hl => match us, hl with | [_], _ => rfl⟩
theorem good_rings (T : Txt K mg cc) : GoodP P w K mg base cc 2 "rings" sem_rings 2 := by
  obtain ⟨f, fd, F, g⟩ := T.d_rings
  refine ⟨f, fd, ["letters", "n"], g, fn_pure il_rings (tb := tbl [("is_integer", 3), ("sign_of", 1), ("power", 2)] [] [] []) (ex := errs) (Γ := gam_rings) F sc_rings rfl (by decide) (by decide +kernel) (facts_of T (fun j x n h => by
      match j, h with
      | 0, h => cases h; exact (good_is_integer T).up (by decide)
      | 1, h => cases h; exact (good_sign_of T).up (by decide)
      | 2, h => cases h; exact (good_power T).up (by decide)
      | _ + 3, h => cases h) (fun j x n h => by
      match j, h with
      | _, h => cases h) (fun j x n h => by cases h) (fun x f h => by cases h)), F.kp, F.binds (ps := ["letters", "n"]) fun _ _ _ _ _ _ us hl => match us, hl with | [_, _], _ => rfl⟩
theorem good_all_words (T : Txt K mg cc) : GoodP P w K mg base cc 1 "all_words" sem_all_words 2 := by
  obtain ⟨f, fd, F, g⟩ := T.d_all_words
  refine ⟨f, fd, ["letters", "n"], g, fn_pure il_all_words (tb := tbl [] [] [] []) (ex := errs) (Γ := gam_all_words) F sc_all_words rfl (by decide) (by decide +kernel) (facts_of T (fun j x n h => by
      match j, h with
      | _, h => cases h) (fun j x n h => by
      match j, h with
      | _, h => cases h) (fun j x n h => by cases h) (fun x f h => by cases h)), F.kp, F.binds (ps := ["letters", "n"]) fun _ _ _ _ _ _ us hl => match us, hl with | [_, _], _ => rfl⟩
theorem good_code_of (T : Txt K mg cc) : GoodP P w K mg base cc 5 "code_of" sem_code_of 2 := by
  obtain ⟨f, fd, F, g⟩ := T.d_code_of
  refine ⟨f, fd, ["letters", "n"], g, fn_pure il_code_of (tb := tbl [("power", 2), ("is_integer", 3), ("all_words", 2), ("is_simple", 1), ("cut", 1)] [] [] []) (ex := errs) (Γ := gam_code_of) F sc_code_of rfl (by decide) (by decide +kernel) (facts_of T (fun j x n h => by
      match j, h with
      | 0, h => cases h; exact (good_power T).up (by decide)
      | 1, h => cases h; exact (good_is_integer T).up (by decide)
      | 2, h => cases h; exact (good_all_words T).up (by decide)
      | 3, h => cases h; exact (good_is_simple T).up (by decide)
      | 4, h => cases h; exact (good_cut T).up (by decide)
      | _ + 5, h => cases h) (fun j x n h => by
      match j, h with
      | _, h => cases h) (fun j x n h => by cases h) (fun x f h => by cases h)), F.kp, F.binds (ps := ["letters", "n"]) fun _ _ _ _ _ _ us hl => match us, hl with | [_, _], _ => rfl⟩
theorem good__law_next (T : Txt K mg cc) : GoodS P w K mg base cc 1 "_law_next" nextS 1 := by
  obtain ⟨f, fd, F, g⟩ := T.d__law_next
  exact ⟨f, fd, ["_law_h", "_law_cap"], g, ok_next F T.b_len T.b_int T.b_max, F.kp, F.binds (ps := ["_law_h", "_law_cap"]) fun _ _ _ _ _ _ us hl => match us, hl with | [_, _], _ => rfl⟩
theorem good__law_alike (T : Txt K mg cc) : ∀ d : Nat, GoodP P w K mg base cc (0 + d) "_law_alike" (sem__law_alike d) 2
  | 0 => by
    obtain ⟨f, fd, F, g⟩ := T.d__law_alike
    refine ⟨f, fd, ["_law_found", "_law_due"], g, ⟨fun vs H Q E h => ?_, fun A outer s H args us vs Q E hr he hb hv h => ?_⟩, F.kp, F.binds (ps := ["_law_found", "_law_due"]) fun _ _ _ _ _ _ us hl => match us, hl with | [_, _], _ => rfl⟩
    · obtain ⟨F, ds, _, r, hl, _⟩ := h
      rw [r.len, hl]; rfl
    · obtain ⟨F, ds, _, r, hl, q⟩ := h
      exact q.elim
  | d + 1 => by
    obtain ⟨f, fd, F, g⟩ := T.d__law_alike
    refine ⟨f, fd, ["_law_found", "_law_due"], g, fn_pure il__law_alike (tb := tbl [("_law_alike", 2)] [] [] []) (ex := errs) (Γ := gam__law_alike (sem__law_alike d)) F sc__law_alike rfl (by decide) (by decide +kernel) (facts_of T (fun j x n h => by
      match j, h with
      | 0, h => cases h; exact good__law_alike T d
      | _ + 1, h => cases h) (fun j x n h => by
      match j, h with
      | _, h => cases h) (fun j x n h => by cases h) (fun x f h => by cases h)), F.kp, F.binds (ps := ["_law_found", "_law_due"]) fun _ _ _ _ _ _ us hl => match us, hl with | [_, _], _ => rfl⟩
theorem good__law_pick (T : Txt K mg cc) : GoodS P w K mg base cc 2 "_law_pick" sem__law_pick 1 := by
  obtain ⟨f, fd, F, g⟩ := T.d__law_pick
  refine ⟨f, fd, ["_law_h", "_law_things"], g, fn_src il__law_pick (tb := tbl [] [("_law_next", 1)] [] []) (ex := errs) (Γ := gam__law_pick) F sc__law_pick rfl (by decide) (by decide +kernel) (facts_of T (fun j x n h => by
      match j, h with
      | _, h => cases h) (fun j x n h => by
      match j, h with
      | 0, h => cases h; exact (good__law_next T).up (by decide)
      | _ + 1, h => cases h) (fun j x n h => by cases h) (fun x f h => by cases h)), F.kp, F.binds (ps := ["_law_h", "_law_things"]) fun _ _ _ _ _ _ us hl => match us, hl with | [_, _], _ => rfl⟩
theorem good__law_text (T : Txt K mg cc) : GoodS P w K mg base cc 2 "_law_text" sem__law_text 2 := by
  obtain ⟨f, fd, F, g⟩ := T.d__law_text
  refine ⟨f, fd, ["_law_h", "_law_letters", "_law_many"], g, fn_src il__law_text (tb := tbl [] [("_law_next", 1)] [] []) (ex := errs) (Γ := gam__law_text) F sc__law_text rfl (by decide) (by decide +kernel) (facts_of T (fun j x n h => by
      match j, h with
      | _, h => cases h) (fun j x n h => by
      match j, h with
      | 0, h => cases h; exact (good__law_next T).up (by decide)
      | _ + 1, h => cases h) (fun j x n h => by cases h) (fun x f h => by cases h)), F.kp, F.binds (ps := ["_law_h", "_law_letters", "_law_many"]) fun _ _ _ _ _ _ us hl => match us, hl with | [_, _, _], _ => rfl⟩
theorem good__law_turns (T : Txt K mg cc) : GoodP P w K mg base cc 1 "_law_turns" sem__law_turns 1 := by
  obtain ⟨f, fd, F, g⟩ := T.d__law_turns
  refine ⟨f, fd, ["_law_word"], g, fn_pure il__law_turns (tb := tbl [] [] [] []) (ex := errs) (Γ := gam__law_turns) F sc__law_turns rfl (by decide) (by decide +kernel) (facts_of T (fun j x n h => by
      match j, h with
      | _, h => cases h) (fun j x n h => by
      match j, h with
      | _, h => cases h) (fun j x n h => by cases h) (fun x f h => by cases h)), F.kp, F.binds (ps := ["_law_word"]) fun _ _ _ _ _ _ us hl => match us, hl with | [_], _ => rfl⟩
theorem good__law_simple (T : Txt K mg cc) : GoodP P w K mg base cc 2 "_law_simple" sem__law_simple 1 := by
  obtain ⟨f, fd, F, g⟩ := T.d__law_simple
  refine ⟨f, fd, ["_law_word"], g, fn_pure il__law_simple (tb := tbl [("_law_turns", 1)] [] [] []) (ex := errs) (Γ := gam__law_simple) F sc__law_simple rfl (by decide) (by decide +kernel) (facts_of T (fun j x n h => by
      match j, h with
      | 0, h => cases h; exact (good__law_turns T).up (by decide)
      | _ + 1, h => cases h) (fun j x n h => by
      match j, h with
      | _, h => cases h) (fun j x n h => by cases h) (fun x f h => by cases h)), F.kp, F.binds (ps := ["_law_word"]) fun _ _ _ _ _ _ us hl => match us, hl with | [_], _ => rfl⟩
theorem good__law_great (T : Txt K mg cc) : GoodP P w K mg base cc 1 "_law_great" sem__law_great 0 := by
  obtain ⟨f, fd, F, g⟩ := T.d__law_great
  refine ⟨f, fd, [], g, fn_pure il__law_great (tb := tbl [] [] [] []) (ex := errs) (Γ := gam__law_great) F sc__law_great rfl (by decide) (by decide +kernel) (facts_of T (fun j x n h => by
      match j, h with
      | _, h => cases h) (fun j x n h => by
      match j, h with
      | _, h => cases h) (fun j x n h => by cases h) (fun x f h => by cases h)), F.kp, F.binds (ps := []) fun _ _ _ _ _ _ us hl => match us, hl with | [], _ => rfl⟩
theorem ok_law (T : Txt K mg cc) (hD : ∀ sr : Src, sr.ok → ∃ s', evB gam_law il_law ⟨envL ["_law_script", "_law_h", "_law_found", "_law_heads", "_law_tails", "_law_word", "_law_again", "_law_letters", "_law_n", "_law_k"], sr⟩ = .rt (.bl true) s') {f : Addr} {fd : FuncData} (F : Fun K "law" "law" s_law f fd) : FnOk P w K mg base (L2.CX P w) 7 f fd ["_law_script"] (spLaw K) := by
  obtain ⟨fM, fdM, FM, gM⟩ := T.d__law_mix
  exact fn_law (k := 6) (cc := cc) ((defBody s_law).headD (.Pass ⟨0, 0, 0, 0⟩)) ((defBody s_law).tail) (tb := tbl [("code_of", 2), ("_law_simple", 1), ("_law_great", 0), ("rings", 2), ("_law_alike", 2), ("cut_turn", 1)] [("_law_pick", 1), ("_law_text", 2)] [] []) (ex := errs) il_law F sc_law rfl (by decide +kernel) (by decide) (by decide +kernel) (facts_of T (fun j x n h => by
      match j, h with
      | 0, h => cases h; exact (good_code_of T).up (by decide)
      | 1, h => cases h; exact (good__law_simple T).up (by decide)
      | 2, h => cases h; exact (good__law_great T).up (by decide)
      | 3, h => cases h; exact (good_rings T).up (by decide)
      | 4, h => cases h; exact (good__law_alike T 6).up (by decide)
      | 5, h => cases h; exact (good_cut_turn T).up (by decide)
      | _ + 6, h => cases h) (fun j x n h => by
      match j, h with
      | 0, h => cases h; exact (good__law_pick T).up (by decide)
      | 1, h => cases h; exact (good__law_text T).up (by decide)
      | _ + 2, h => cases h) (fun j x n h => by cases h) (fun x f h => by cases h)) gM (ok_mix FM T.b_int T.b_list) FM.kp (FM.binds (ps := ["_law_script", "_law_seed"]) fun _ _ _ _ _ _ us hl => match us, hl with | [_, _], _ => rfl) hD
end
theorem all_mk (hD : ∀ sr : Src, sr.ok → ∃ s', evB gam_law il_law ⟨envL ["_law_script", "_law_h", "_law_found", "_law_heads", "_law_tails", "_law_word", "_law_again", "_law_letters", "_law_n", "_law_k"], sr⟩ = .rt (.bl true) s') {l : PySem.W.OpenLaw} {w : World} {K : PySem.W.Frag} {h : Heap} {mg : Str → Option Value} {fa : Addr} {cc : Addr} (X : K.In h) (G : h.Ns mainGlobals mg) (hfa : mg "law" = some (.ref fa))
    {f0 : Addr} {od0 an0 : Option Addr} {sl0 : Array (Option Value)} {oc0 kV0 dc0 pm0 cd0 ct0 : Value}
    {f1 : Addr} {od1 an1 : Option Addr} {sl1 : Array (Option Value)} {oc1 kV1 dc1 pm1 cd1 ct1 : Value}
    {f2 : Addr} {od2 an2 : Option Addr} {sl2 : Array (Option Value)} {oc2 kV2 dc2 pm2 cd2 ct2 : Value}
    {f3 : Addr} {od3 an3 : Option Addr} {sl3 : Array (Option Value)} {oc3 kV3 dc3 pm3 cd3 ct3 : Value}
    {f4 : Addr} {od4 an4 : Option Addr} {sl4 : Array (Option Value)} {oc4 kV4 dc4 pm4 cd4 ct4 : Value}
    {f5 : Addr} {od5 an5 : Option Addr} {sl5 : Array (Option Value)} {oc5 kV5 dc5 pm5 cd5 ct5 : Value}
    {f6 : Addr} {od6 an6 : Option Addr} {sl6 : Array (Option Value)} {oc6 kV6 dc6 pm6 cd6 ct6 : Value}
    {f7 : Addr} {od7 an7 : Option Addr} {sl7 : Array (Option Value)} {oc7 kV7 dc7 pm7 cd7 ct7 : Value}
    {f8 : Addr} {od8 an8 : Option Addr} {sl8 : Array (Option Value)} {oc8 kV8 dc8 pm8 cd8 ct8 : Value}
    {f9 : Addr} {od9 an9 : Option Addr} {sl9 : Array (Option Value)} {oc9 kV9 dc9 pm9 cd9 ct9 : Value}
    {f10 : Addr} {od10 an10 : Option Addr} {sl10 : Array (Option Value)} {oc10 kV10 dc10 pm10 cd10 ct10 : Value}
    {f11 : Addr} {od11 an11 : Option Addr} {sl11 : Array (Option Value)} {oc11 kV11 dc11 pm11 cd11 ct11 : Value}
    {f12 : Addr} {od12 an12 : Option Addr} {sl12 : Array (Option Value)} {oc12 kV12 dc12 pm12 cd12 ct12 : Value}
    {f13 : Addr} {od13 an13 : Option Addr} {sl13 : Array (Option Value)} {oc13 kV13 dc13 pm13 cd13 ct13 : Value}
    {f14 : Addr} {od14 an14 : Option Addr} {sl14 : Array (Option Value)} {oc14 kV14 dc14 pm14 cd14 ct14 : Value}
    {f15 : Addr} {od15 an15 : Option Addr} {sl15 : Array (Option Value)} {oc15 kV15 dc15 pm15 cd15 ct15 : Value}
    {f16 : Addr} {od16 an16 : Option Addr} {sl16 : Array (Option Value)} {oc16 kV16 dc16 pm16 cd16 ct16 : Value}
    {f17 : Addr} {od17 an17 : Option Addr} {sl17 : Array (Option Value)} {oc17 kV17 dc17 pm17 cd17 ct17 : Value}
    {f18 : Addr} {od18 an18 : Option Addr} {sl18 : Array (Option Value)} {oc18 kV18 dc18 pm18 cd18 ct18 : Value}
    {f19 : Addr} {od19 an19 : Option Addr} {sl19 : Array (Option Value)} {oc19 kV19 dc19 pm19 cd19 ct19 : Value}
    {f20 : Addr} {od20 an20 : Option Addr} {sl20 : Array (Option Value)} {oc20 kV20 dc20 pm20 cd20 ct20 : Value}
    {f21 : Addr} {od21 an21 : Option Addr} {sl21 : Array (Option Value)} {oc21 kV21 dc21 pm21 cd21 ct21 : Value}
    {ti0 : Tok}
    {ti1 : Tok}
    {ti2 : Tok}
    {ts0 : Tok}
    {e0 : Addr}
    {e1 : Addr}
    (a0 : PySem.W.nsIn K mainGlobals "is_integer" = some (some (.ref f0))) (l0 : K.lookup f0 = some ⟨oc0, od0, .func (PySem.W.fnOf "is_integer" "is_integer" (defArgs s_is_integer) (defBody s_is_integer) (defScope s_is_integer) .none kV0 dc0 pm0 an0 cd0 ct0), sl0⟩) (c0 : PySem.W.codeIn K cd0 "is_integer" = true) (k0 : PySem.W.keepIn K (.ref f0) = true)
    (a1 : PySem.W.nsIn K mainGlobals "is_string" = some (some (.ref f1))) (l1 : K.lookup f1 = some ⟨oc1, od1, .func (PySem.W.fnOf "is_string" "is_string" (defArgs s_is_string) (defBody s_is_string) (defScope s_is_string) .none kV1 dc1 pm1 an1 cd1 ct1), sl1⟩) (c1 : PySem.W.codeIn K cd1 "is_string" = true) (k1 : PySem.W.keepIn K (.ref f1) = true)
    (a2 : PySem.W.nsIn K mainGlobals "turn" = some (some (.ref f2))) (l2 : K.lookup f2 = some ⟨oc2, od2, .func (PySem.W.fnOf "turn" "turn" (defArgs s_turn) (defBody s_turn) (defScope s_turn) .none kV2 dc2 pm2 an2 cd2 ct2), sl2⟩) (c2 : PySem.W.codeIn K cd2 "turn" = true) (k2 : PySem.W.keepIn K (.ref f2) = true)
    (a3 : PySem.W.nsIn K mainGlobals "check_ring" = some (some (.ref f3))) (l3 : K.lookup f3 = some ⟨oc3, od3, .func (PySem.W.fnOf "check_ring" "check_ring" (defArgs s_check_ring) (defBody s_check_ring) (defScope s_check_ring) .none kV3 dc3 pm3 an3 cd3 ct3), sl3⟩) (c3 : PySem.W.codeIn K cd3 "check_ring" = true) (k3 : PySem.W.keepIn K (.ref f3) = true)
    (a4 : PySem.W.nsIn K mainGlobals "is_simple" = some (some (.ref f4))) (l4 : K.lookup f4 = some ⟨oc4, od4, .func (PySem.W.fnOf "is_simple" "is_simple" (defArgs s_is_simple) (defBody s_is_simple) (defScope s_is_simple) .none kV4 dc4 pm4 an4 cd4 ct4), sl4⟩) (c4 : PySem.W.codeIn K cd4 "is_simple" = true) (k4 : PySem.W.keepIn K (.ref f4) = true)
    (a5 : PySem.W.nsIn K mainGlobals "joined" = some (some (.ref f5))) (l5 : K.lookup f5 = some ⟨oc5, od5, .func (PySem.W.fnOf "joined" "joined" (defArgs s_joined) (defBody s_joined) (defScope s_joined) .none kV5 dc5 pm5 an5 cd5 ct5), sl5⟩) (c5 : PySem.W.codeIn K cd5 "joined" = true) (k5 : PySem.W.keepIn K (.ref f5) = true)
    (a6 : PySem.W.nsIn K mainGlobals "cut" = some (some (.ref f6))) (l6 : K.lookup f6 = some ⟨oc6, od6, .func (PySem.W.fnOf "cut" "cut" (defArgs s_cut) (defBody s_cut) (defScope s_cut) .none kV6 dc6 pm6 an6 cd6 ct6), sl6⟩) (c6 : PySem.W.codeIn K cd6 "cut" = true) (k6 : PySem.W.keepIn K (.ref f6) = true)
    (a7 : PySem.W.nsIn K mainGlobals "cut_turn" = some (some (.ref f7))) (l7 : K.lookup f7 = some ⟨oc7, od7, .func (PySem.W.fnOf "cut_turn" "cut_turn" (defArgs s_cut_turn) (defBody s_cut_turn) (defScope s_cut_turn) .none kV7 dc7 pm7 an7 cd7 ct7), sl7⟩) (c7 : PySem.W.codeIn K cd7 "cut_turn" = true) (k7 : PySem.W.keepIn K (.ref f7) = true)
    (a8 : PySem.W.nsIn K mainGlobals "power" = some (some (.ref f8))) (l8 : K.lookup f8 = some ⟨oc8, od8, .func (PySem.W.fnOf "power" "power" (defArgs s_power) (defBody s_power) (defScope s_power) .none kV8 dc8 pm8 an8 cd8 ct8), sl8⟩) (c8 : PySem.W.codeIn K cd8 "power" = true) (k8 : PySem.W.keepIn K (.ref f8) = true)
    (a9 : PySem.W.nsIn K mainGlobals "sign_of" = some (some (.ref f9))) (l9 : K.lookup f9 = some ⟨oc9, od9, .func (PySem.W.fnOf "sign_of" "sign_of" (defArgs s_sign_of) (defBody s_sign_of) (defScope s_sign_of) .none kV9 dc9 pm9 an9 cd9 ct9), sl9⟩) (c9 : PySem.W.codeIn K cd9 "sign_of" = true) (k9 : PySem.W.keepIn K (.ref f9) = true)
    (a10 : PySem.W.nsIn K mainGlobals "rings" = some (some (.ref f10))) (l10 : K.lookup f10 = some ⟨oc10, od10, .func (PySem.W.fnOf "rings" "rings" (defArgs s_rings) (defBody s_rings) (defScope s_rings) .none kV10 dc10 pm10 an10 cd10 ct10), sl10⟩) (c10 : PySem.W.codeIn K cd10 "rings" = true) (k10 : PySem.W.keepIn K (.ref f10) = true)
    (a11 : PySem.W.nsIn K mainGlobals "all_words" = some (some (.ref f11))) (l11 : K.lookup f11 = some ⟨oc11, od11, .func (PySem.W.fnOf "all_words" "all_words" (defArgs s_all_words) (defBody s_all_words) (defScope s_all_words) .none kV11 dc11 pm11 an11 cd11 ct11), sl11⟩) (c11 : PySem.W.codeIn K cd11 "all_words" = true) (k11 : PySem.W.keepIn K (.ref f11) = true)
    (a12 : PySem.W.nsIn K mainGlobals "code_of" = some (some (.ref f12))) (l12 : K.lookup f12 = some ⟨oc12, od12, .func (PySem.W.fnOf "code_of" "code_of" (defArgs s_code_of) (defBody s_code_of) (defScope s_code_of) .none kV12 dc12 pm12 an12 cd12 ct12), sl12⟩) (c12 : PySem.W.codeIn K cd12 "code_of" = true) (k12 : PySem.W.keepIn K (.ref f12) = true)
    (a13 : PySem.W.nsIn K mainGlobals "_law_mix" = some (some (.ref f13))) (l13 : K.lookup f13 = some ⟨oc13, od13, .func (PySem.W.fnOf "_law_mix" "_law_mix" (defArgs s__law_mix) (defBody s__law_mix) (defScope s__law_mix) .none kV13 dc13 pm13 an13 cd13 ct13), sl13⟩) (c13 : PySem.W.codeIn K cd13 "_law_mix" = true) (k13 : PySem.W.keepIn K (.ref f13) = true)
    (a14 : PySem.W.nsIn K mainGlobals "_law_next" = some (some (.ref f14))) (l14 : K.lookup f14 = some ⟨oc14, od14, .func (PySem.W.fnOf "_law_next" "_law_next" (defArgs s__law_next) (defBody s__law_next) (defScope s__law_next) .none kV14 dc14 pm14 an14 cd14 ct14), sl14⟩) (c14 : PySem.W.codeIn K cd14 "_law_next" = true) (k14 : PySem.W.keepIn K (.ref f14) = true)
    (a15 : PySem.W.nsIn K mainGlobals "_law_alike" = some (some (.ref f15))) (l15 : K.lookup f15 = some ⟨oc15, od15, .func (PySem.W.fnOf "_law_alike" "_law_alike" (defArgs s__law_alike) (defBody s__law_alike) (defScope s__law_alike) .none kV15 dc15 pm15 an15 cd15 ct15), sl15⟩) (c15 : PySem.W.codeIn K cd15 "_law_alike" = true) (k15 : PySem.W.keepIn K (.ref f15) = true)
    (a16 : PySem.W.nsIn K mainGlobals "_law_pick" = some (some (.ref f16))) (l16 : K.lookup f16 = some ⟨oc16, od16, .func (PySem.W.fnOf "_law_pick" "_law_pick" (defArgs s__law_pick) (defBody s__law_pick) (defScope s__law_pick) .none kV16 dc16 pm16 an16 cd16 ct16), sl16⟩) (c16 : PySem.W.codeIn K cd16 "_law_pick" = true) (k16 : PySem.W.keepIn K (.ref f16) = true)
    (a17 : PySem.W.nsIn K mainGlobals "_law_text" = some (some (.ref f17))) (l17 : K.lookup f17 = some ⟨oc17, od17, .func (PySem.W.fnOf "_law_text" "_law_text" (defArgs s__law_text) (defBody s__law_text) (defScope s__law_text) .none kV17 dc17 pm17 an17 cd17 ct17), sl17⟩) (c17 : PySem.W.codeIn K cd17 "_law_text" = true) (k17 : PySem.W.keepIn K (.ref f17) = true)
    (a18 : PySem.W.nsIn K mainGlobals "_law_turns" = some (some (.ref f18))) (l18 : K.lookup f18 = some ⟨oc18, od18, .func (PySem.W.fnOf "_law_turns" "_law_turns" (defArgs s__law_turns) (defBody s__law_turns) (defScope s__law_turns) .none kV18 dc18 pm18 an18 cd18 ct18), sl18⟩) (c18 : PySem.W.codeIn K cd18 "_law_turns" = true) (k18 : PySem.W.keepIn K (.ref f18) = true)
    (a19 : PySem.W.nsIn K mainGlobals "_law_simple" = some (some (.ref f19))) (l19 : K.lookup f19 = some ⟨oc19, od19, .func (PySem.W.fnOf "_law_simple" "_law_simple" (defArgs s__law_simple) (defBody s__law_simple) (defScope s__law_simple) .none kV19 dc19 pm19 an19 cd19 ct19), sl19⟩) (c19 : PySem.W.codeIn K cd19 "_law_simple" = true) (k19 : PySem.W.keepIn K (.ref f19) = true)
    (a20 : PySem.W.nsIn K mainGlobals "_law_great" = some (some (.ref f20))) (l20 : K.lookup f20 = some ⟨oc20, od20, .func (PySem.W.fnOf "_law_great" "_law_great" (defArgs s__law_great) (defBody s__law_great) (defScope s__law_great) .none kV20 dc20 pm20 an20 cd20 ct20), sl20⟩) (c20 : PySem.W.codeIn K cd20 "_law_great" = true) (k20 : PySem.W.keepIn K (.ref f20) = true)
    (a21 : PySem.W.nsIn K mainGlobals "law" = some (some (.ref f21))) (l21 : K.lookup f21 = some ⟨oc21, od21, .func (PySem.W.fnOf "law" "law" (defArgs s_law) (defBody s_law) (defScope s_law) .none kV21 dc21 pm21 an21 cd21 ct21), sl21⟩) (c21 : PySem.W.codeIn K cd21 "law" = true) (k21 : PySem.W.keepIn K (.ref f21) = true)
    (z0 : PySem.W.nsIn K mainGlobals "len" = some none)
    (z1 : PySem.W.nsIn K mainGlobals "all" = some none)
    (z2 : PySem.W.nsIn K mainGlobals "sum" = some none)
    (z3 : PySem.W.nsIn K mainGlobals "max" = some none)
    (z4 : PySem.W.nsIn K mainGlobals "min" = some none)
    (z5 : PySem.W.nsIn K mainGlobals "list" = some none)
    (z6 : PySem.W.nsIn K mainGlobals "tuple" = some none)
    (z7 : PySem.W.nsIn K mainGlobals "int" = some none)
    (z8 : PySem.W.nsIn K mainGlobals "isinstance" = some none)
    (z9 : PySem.W.nsIn K mainGlobals "range" = some none)
    (z10 : PySem.W.nsIn K mainGlobals "str" = some none)
    (z11 : PySem.W.nsIn K mainGlobals "bool" = some none)
    (z12 : PySem.W.nsIn K mainGlobals "enumerate" = some none)
    (z13 : PySem.W.nsIn K mainGlobals "sorted" = some none)
    (ci0 : PySem.W.nsIn K mainGlobals "MOST_RING" = some (some (.int 99 ti0)))
    (ci1 : PySem.W.nsIn K mainGlobals "MOST_COUNTED" = some (some (.int 200 ti1)))
    (ci2 : PySem.W.nsIn K mainGlobals "MOST_LISTED" = some (some (.int 2187 ti2)))
    (cs0 : PySem.W.nsIn K mainGlobals "ALL" = some (some (.str (S [97, 98, 99, 100]) ts0)))
    (ea0 : PySem.W.nsIn K mainGlobals "BadNumber" = some (some (.ref e0))) (ex0 : PySem.W.excIn K e0 [.type "ValueError", .type "Exception", .type "BaseException", .type "object"] "ValueError.__new__" = true) (ek0 : PySem.W.keepIn K (.ref e0) = true) (es0 : PySem.W.subIn K (.ref e0) (.type "BaseException") = some true) (et0 : PySem.W.typeIn K (.ref e0) = some (.type "type"))
    (ea1 : PySem.W.nsIn K mainGlobals "BadWord" = some (some (.ref e1))) (ex1 : PySem.W.excIn K e1 [.type "ValueError", .type "Exception", .type "BaseException", .type "object"] "ValueError.__new__" = true) (ek1 : PySem.W.keepIn K (.ref e1) = true) (es1 : PySem.W.subIn K (.ref e1) (.type "BaseException") = some true) (et1 : PySem.W.typeIn K (.ref e1) = some (.type "type")) :
    ∃ fd : FuncData, (∀ (s : Shared) (v : Value), BindsTo s fd ⟨[v], []⟩ [("_law_script", v)]) ∧ ∀ base : Heap, K.In base → base.Ns mainGlobals mg → FnOk l.prog w K mg base (L2.CX l.prog w) 7 fa fd ["_law_script"] (spLaw K) := by
  have e := hfa.symm.trans (PySem.W.mg_of X G a21)
  cases e
  have T : Txt K mg cc :=
    ⟨⟨_, _, fun_mk (st := s_is_integer) l0 c0 k0, PySem.W.mg_of X G a0⟩,
    ⟨_, _, fun_mk (st := s_is_string) l1 c1 k1, PySem.W.mg_of X G a1⟩,
    ⟨_, _, fun_mk (st := s_turn) l2 c2 k2, PySem.W.mg_of X G a2⟩,
    ⟨_, _, fun_mk (st := s_check_ring) l3 c3 k3, PySem.W.mg_of X G a3⟩,
    ⟨_, _, fun_mk (st := s_is_simple) l4 c4 k4, PySem.W.mg_of X G a4⟩,
    ⟨_, _, fun_mk (st := s_joined) l5 c5 k5, PySem.W.mg_of X G a5⟩,
    ⟨_, _, fun_mk (st := s_cut) l6 c6 k6, PySem.W.mg_of X G a6⟩,
    ⟨_, _, fun_mk (st := s_cut_turn) l7 c7 k7, PySem.W.mg_of X G a7⟩,
    ⟨_, _, fun_mk (st := s_power) l8 c8 k8, PySem.W.mg_of X G a8⟩,
    ⟨_, _, fun_mk (st := s_sign_of) l9 c9 k9, PySem.W.mg_of X G a9⟩,
    ⟨_, _, fun_mk (st := s_rings) l10 c10 k10, PySem.W.mg_of X G a10⟩,
    ⟨_, _, fun_mk (st := s_all_words) l11 c11 k11, PySem.W.mg_of X G a11⟩,
    ⟨_, _, fun_mk (st := s_code_of) l12 c12 k12, PySem.W.mg_of X G a12⟩,
    ⟨_, _, fun_mk (st := s__law_mix) l13 c13 k13, PySem.W.mg_of X G a13⟩,
    ⟨_, _, fun_mk (st := s__law_next) l14 c14 k14, PySem.W.mg_of X G a14⟩,
    ⟨_, _, fun_mk (st := s__law_alike) l15 c15 k15, PySem.W.mg_of X G a15⟩,
    ⟨_, _, fun_mk (st := s__law_pick) l16 c16 k16, PySem.W.mg_of X G a16⟩,
    ⟨_, _, fun_mk (st := s__law_text) l17 c17 k17, PySem.W.mg_of X G a17⟩,
    ⟨_, _, fun_mk (st := s__law_turns) l18 c18 k18, PySem.W.mg_of X G a18⟩,
    ⟨_, _, fun_mk (st := s__law_simple) l19 c19 k19, PySem.W.mg_of X G a19⟩,
    ⟨_, _, fun_mk (st := s__law_great) l20 c20 k20, PySem.W.mg_of X G a20⟩,
    ⟨_, _, fun_mk (st := s_law) l21 c21 k21, PySem.W.mg_of X G a21⟩,
    PySem.W.mg_none_of X G z0,
    PySem.W.mg_none_of X G z1,
    PySem.W.mg_none_of X G z2,
    PySem.W.mg_none_of X G z3,
    PySem.W.mg_none_of X G z4,
    PySem.W.mg_none_of X G z5,
    PySem.W.mg_none_of X G z6,
    PySem.W.mg_none_of X G z7,
    PySem.W.mg_none_of X G z8,
    PySem.W.mg_none_of X G z9,
    PySem.W.mg_none_of X G z10,
    PySem.W.mg_none_of X G z11,
    PySem.W.mg_none_of X G z12,
    PySem.W.mg_none_of X G z13,
    ⟨ti0, PySem.W.mg_of X G ci0⟩,
    ⟨ti1, PySem.W.mg_of X G ci1⟩,
    ⟨ti2, PySem.W.mg_of X G ci2⟩,
    ⟨ts0, PySem.W.mg_of X G cs0⟩,
    ⟨e0, PySem.W.mg_of X G ea0, ⟨ex0, ek0, es0, et0⟩⟩,
    ⟨e1, PySem.W.mg_of X G ea1, ⟨ex1, ek1, es1, et1⟩⟩⟩
  exact ⟨PySem.W.fnOf "law" "law" (defArgs s_law) (defBody s_law) (defScope s_law) .none kV21 dc21 pm21 an21 cd21 ct21, fun s v => .of_eq rfl, fun base _ _ => ok_law (cc := cc) T hD (fun_mk (st := s_law) l21 c21 k21)⟩
end Cut
namespace Cut
open PySem PySem.Spec L2
open PyProof.Rows hiding St
theorem v_is_string {w : Wd} {n : Int} (h0 : 0 ≤ n) (hw : w.length ≤ 1000) : sem_is_string [.str w, .int n] = .ok (.bl (w.all fun c => decide (c ∈ [97, 98, 99, 100].take n.toNat))) := by
  refine semP_wp rfl ?_
  unfold il_is_string
  show Rst.wp (evB _ _ ⟨[some (.im (.str w)), some (.im (.int n)), none], ⟨0, [], 0⟩⟩) _ _
  (try simp only [w_var, w_bor, w_kint, w_kstr, w_kbl, w_knon, w_gint, w_gstr, w_bin, w_binN, w_cmp, w_ix, w_chn, chnW_b, w_neg, w_notv, w_one, w_andv, w_orv, w_ite, w_tup, w_lst, w_cal, w_listN, w_tupC, w_intC, w_isi, w_isi2', w_sl, w_slN, w_pn, w_ps, w_nil, w_cons, w_tval, w_tcmp, w_tchn, w_tnot, w_tw, w_tone, w_tyes, w_tand, w_tor, w_seq, w_r1, w_r2, w_r3, w_fld, w_prop, w_enu, w_lrg, w_ltx, w_srt, Fl.f, w_snil, w_scons, w_ret, w_retN, w_asg, w_own, w_expr, w_if, w_for, w_brk, w_cnt, w_pass, w_raise, w_app2, ownL_o, w_par, w_unp, w_lcAf, w_lcAt, wp_of_some, wp_of_ite, wp_ok, wp_bad, wp_exc, wp_nx, wp_rt, wp_bk, wp_ct, wp_xc, wp_no, getV, borV, Bo.f, BoN.f, Co.f, Bi.f, Tg.t, addD_i, addD_s, addD_t, catD_l, subD_i, mulD_i, mulD_s, mulD_t, repD_l, fdivD_i, modD_i, eqD_s, eqD_i, eqD_b, neD_s, neD_i, neD_b, ltD_i, gtD_i, leD_i, geD_i, isND_n, notND_n, nonD_n, nonD_s, nonD_i, nonD_b, nonD_l, nonD_t, inD_s, ninD_s, ixD_l, ixD_t, lenD_l, lenD_t, lenD_s, max2_i, min2_i, listL_l, listL_t, tupL_l, tupL_t, int1_i, items_l, items_t, items_s, rng1_i, rng2_i, slD_s, slD_t, slN_l, isi_ss, isi_si, isi_sb, isi_sl, isi_st, isi_sn, isi_is, isi_ii, isi_ib, isi_il, isi_it, isi_in, isi_bs, isi_bi, isi_bb, isi_bl, isi_bt, isi_bn, isi_ls, isi_li, isi_lb, isi_ll, isi_lt, isi_ln, isi_ts, isi_ti, isi_tb, isi_tl, isi_tt, isi_tn, tl_s, tl_i, tl_b, tl_l, tl_t, tl_n, List.getElem?_cons_zero, List.getElem?_cons_succ, List.set_cons_zero, List.set_cons_succ, List.length_cons, List.length_nil, Nat.reduceAdd, Nat.reduceLT, Nat.reduceLeDiff, Nat.zero_lt_succ, D.bl.injEq, D.int.injEq, D.str.injEq, exists_eq_left', exists_eq_left, true_and, and_true, forall_const, Bool.true_and, Bool.and_true, Bool.false_eq_true, Bool.not_true, Bool.not_false, if_true, true_implies, false_implies, eq_self, Bool.true_eq_false, reduceCtorEq, decide_true, decide_eq_true_eq, decide_eq_false_iff_not, Decidable.not_not, beq_self_eq_true, not_true_eq_false, not_false_eq_true, Bool.not_eq_true', Bool.not_eq_false', Option.some.injEq, wipeD, List.map_cons, List.map_nil, List.foldr_cons, List.foldr_nil, tgName, tgTup, tgNames, Option.bind_some, and_self])
  refine wp_lcm (fun c : Nat => .str [c]) (fun c => .bl (decide (c ∈ [97, 98, 99, 100].take n.toNat))) ?_
  (try simp only [w_var, w_bor, w_kint, w_kstr, w_kbl, w_knon, w_gint, w_gstr, w_bin, w_binN, w_cmp, w_ix, w_chn, chnW_b, w_neg, w_notv, w_one, w_andv, w_orv, w_ite, w_tup, w_lst, w_cal, w_listN, w_tupC, w_intC, w_isi, w_isi2', w_sl, w_slN, w_pn, w_ps, w_nil, w_cons, w_tval, w_tcmp, w_tchn, w_tnot, w_tw, w_tone, w_tyes, w_tand, w_tor, w_seq, w_r1, w_r2, w_r3, w_fld, w_prop, w_enu, w_lrg, w_ltx, w_srt, Fl.f, w_snil, w_scons, w_ret, w_retN, w_asg, w_own, w_expr, w_if, w_for, w_brk, w_cnt, w_pass, w_raise, w_app2, ownL_o, w_par, w_unp, w_lcAf, w_lcAt, wp_of_some, wp_of_ite, wp_ok, wp_bad, wp_exc, wp_nx, wp_rt, wp_bk, wp_ct, wp_xc, wp_no, getV, borV, Bo.f, BoN.f, Co.f, Bi.f, Tg.t, addD_i, addD_s, addD_t, catD_l, subD_i, mulD_i, mulD_s, mulD_t, repD_l, fdivD_i, modD_i, eqD_s, eqD_i, eqD_b, neD_s, neD_i, neD_b, ltD_i, gtD_i, leD_i, geD_i, isND_n, notND_n, nonD_n, nonD_s, nonD_i, nonD_b, nonD_l, nonD_t, inD_s, ninD_s, ixD_l, ixD_t, lenD_l, lenD_t, lenD_s, max2_i, min2_i, listL_l, listL_t, tupL_l, tupL_t, int1_i, items_l, items_t, items_s, rng1_i, rng2_i, slD_s, slD_t, slN_l, isi_ss, isi_si, isi_sb, isi_sl, isi_st, isi_sn, isi_is, isi_ii, isi_ib, isi_il, isi_it, isi_in, isi_bs, isi_bi, isi_bb, isi_bl, isi_bt, isi_bn, isi_ls, isi_li, isi_lb, isi_ll, isi_lt, isi_ln, isi_ts, isi_ti, isi_tb, isi_tl, isi_tt, isi_tn, tl_s, tl_i, tl_b, tl_l, tl_t, tl_n, List.getElem?_cons_zero, List.getElem?_cons_succ, List.set_cons_zero, List.set_cons_succ, List.length_cons, List.length_nil, Nat.reduceAdd, Nat.reduceLT, Nat.reduceLeDiff, Nat.zero_lt_succ, D.bl.injEq, D.int.injEq, D.str.injEq, exists_eq_left', exists_eq_left, true_and, and_true, forall_const, Bool.true_and, Bool.and_true, Bool.false_eq_true, Bool.not_true, Bool.not_false, if_true, true_implies, false_implies, eq_self, Bool.true_eq_false, reduceCtorEq, decide_true, decide_eq_true_eq, decide_eq_false_iff_not, Decidable.not_not, beq_self_eq_true, not_true_eq_false, not_false_eq_true, Bool.not_eq_true', Bool.not_eq_false', Option.some.injEq, wipeD, List.map_cons, List.map_nil, List.foldr_cons, List.foldr_nil, tgName, tgTup, tgNames, Option.bind_some, and_self, allL_map, cut_to _ h0])
  refine ⟨rfl, w, rfl, by (first | assumption | omega | (simp only [LN, big, rot_len, List.length_append, List.length_drop, List.length_take, List.length_map, List.length_cons, List.length_nil, List.length_range, Bool.and_eq_true, decide_eq_true_eq] at *; omega)), fun c hc => by decide, _, rfl⟩
theorem v_turn {w : Wd} {i : Int} (h0 : 0 ≤ i) (hw : w.length ≤ 1000) : sem_turn [.str w, .int i] = .ok (.str (rot w i.toNat)) := by
  refine semP_wp rfl ?_
  unfold il_turn
  show Rst.wp (evB _ _ ⟨[some (.im (.str w)), some (.im (.int i))], ⟨0, [], 0⟩⟩) _ _
  (try simp only [w_var, w_bor, w_kint, w_kstr, w_kbl, w_knon, w_gint, w_gstr, w_bin, w_binN, w_cmp, w_ix, w_chn, chnW_b, w_neg, w_notv, w_one, w_andv, w_orv, w_ite, w_tup, w_lst, w_cal, w_listN, w_tupC, w_intC, w_isi, w_isi2', w_sl, w_slN, w_pn, w_ps, w_nil, w_cons, w_tval, w_tcmp, w_tchn, w_tnot, w_tw, w_tone, w_tyes, w_tand, w_tor, w_seq, w_r1, w_r2, w_r3, w_fld, w_prop, w_enu, w_lrg, w_ltx, w_srt, Fl.f, w_snil, w_scons, w_ret, w_retN, w_asg, w_own, w_expr, w_if, w_for, w_brk, w_cnt, w_pass, w_raise, w_app2, ownL_o, w_par, w_unp, w_lcAf, w_lcAt, wp_of_some, wp_of_ite, wp_ok, wp_bad, wp_exc, wp_nx, wp_rt, wp_bk, wp_ct, wp_xc, wp_no, getV, borV, Bo.f, BoN.f, Co.f, Bi.f, Tg.t, addD_i, addD_s, addD_t, catD_l, subD_i, mulD_i, mulD_s, mulD_t, repD_l, fdivD_i, modD_i, eqD_s, eqD_i, eqD_b, neD_s, neD_i, neD_b, ltD_i, gtD_i, leD_i, geD_i, isND_n, notND_n, nonD_n, nonD_s, nonD_i, nonD_b, nonD_l, nonD_t, inD_s, ninD_s, ixD_l, ixD_t, lenD_l, lenD_t, lenD_s, max2_i, min2_i, listL_l, listL_t, tupL_l, tupL_t, int1_i, items_l, items_t, items_s, rng1_i, rng2_i, slD_s, slD_t, slN_l, isi_ss, isi_si, isi_sb, isi_sl, isi_st, isi_sn, isi_is, isi_ii, isi_ib, isi_il, isi_it, isi_in, isi_bs, isi_bi, isi_bb, isi_bl, isi_bt, isi_bn, isi_ls, isi_li, isi_lb, isi_ll, isi_lt, isi_ln, isi_ts, isi_ti, isi_tb, isi_tl, isi_tt, isi_tn, tl_s, tl_i, tl_b, tl_l, tl_t, tl_n, List.getElem?_cons_zero, List.getElem?_cons_succ, List.set_cons_zero, List.set_cons_succ, List.length_cons, List.length_nil, Nat.reduceAdd, Nat.reduceLT, Nat.reduceLeDiff, Nat.zero_lt_succ, D.bl.injEq, D.int.injEq, D.str.injEq, exists_eq_left', exists_eq_left, true_and, and_true, forall_const, Bool.true_and, Bool.and_true, Bool.false_eq_true, Bool.not_true, Bool.not_false, if_true, true_implies, false_implies, eq_self, Bool.true_eq_false, reduceCtorEq, decide_true, decide_eq_true_eq, decide_eq_false_iff_not, Decidable.not_not, beq_self_eq_true, not_true_eq_false, not_false_eq_true, Bool.not_eq_true', Bool.not_eq_false', Option.some.injEq, wipeD, List.map_cons, List.map_nil, List.foldr_cons, List.foldr_nil, tgName, tgTup, tgNames, Option.bind_some, and_self, cut_from _ h0, cut_to _ h0])
  exact ⟨by (first | assumption | omega | (simp only [LN, big, rot_len, List.length_append, List.length_drop, List.length_take, List.length_map, List.length_cons, List.length_nil, List.length_range, Bool.and_eq_true, decide_eq_true_eq] at *; omega)), by (first | assumption | omega | (simp only [LN, big, rot_len, List.length_append, List.length_drop, List.length_take, List.length_map, List.length_cons, List.length_nil, List.length_range, Bool.and_eq_true, decide_eq_true_eq] at *; omega)), by (first | assumption | omega | (simp only [LN, big, rot_len, List.length_append, List.length_drop, List.length_take, List.length_map, List.length_cons, List.length_nil, List.length_range, Bool.and_eq_true, decide_eq_true_eq] at *; omega)), _, rfl⟩
theorem v_check {w : Wd} (hw : isL 4 w) (h0 : 1 ≤ w.length) (h1 : w.length ≤ 99) : sem_check_ring [.str w] = .ok .non := by
  refine semP_wp rfl ?_
  unfold il_check_ring
  show Rst.wp (evB _ _ ⟨[some (.im (.str w))], ⟨0, [], 0⟩⟩) _ _
  (try simp only [w_var, w_bor, w_kint, w_kstr, w_kbl, w_knon, w_gint, w_gstr, w_bin, w_binN, w_cmp, w_ix, w_chn, chnW_b, w_neg, w_notv, w_one, w_andv, w_orv, w_ite, w_tup, w_lst, w_cal, w_listN, w_tupC, w_intC, w_isi, w_isi2', w_sl, w_slN, w_pn, w_ps, w_nil, w_cons, w_tval, w_tcmp, w_tchn, w_tnot, w_tw, w_tone, w_tyes, w_tand, w_tor, w_seq, w_r1, w_r2, w_r3, w_fld, w_prop, w_enu, w_lrg, w_ltx, w_srt, Fl.f, w_snil, w_scons, w_ret, w_retN, w_asg, w_own, w_expr, w_if, w_for, w_brk, w_cnt, w_pass, w_raise, w_app2, ownL_o, w_par, w_unp, w_lcAf, w_lcAt, wp_of_some, wp_of_ite, wp_ok, wp_bad, wp_exc, wp_nx, wp_rt, wp_bk, wp_ct, wp_xc, wp_no, getV, borV, Bo.f, BoN.f, Co.f, Bi.f, Tg.t, addD_i, addD_s, addD_t, catD_l, subD_i, mulD_i, mulD_s, mulD_t, repD_l, fdivD_i, modD_i, eqD_s, eqD_i, eqD_b, neD_s, neD_i, neD_b, ltD_i, gtD_i, leD_i, geD_i, isND_n, notND_n, nonD_n, nonD_s, nonD_i, nonD_b, nonD_l, nonD_t, inD_s, ninD_s, ixD_l, ixD_t, lenD_l, lenD_t, lenD_s, max2_i, min2_i, listL_l, listL_t, tupL_l, tupL_t, int1_i, items_l, items_t, items_s, rng1_i, rng2_i, slD_s, slD_t, slN_l, isi_ss, isi_si, isi_sb, isi_sl, isi_st, isi_sn, isi_is, isi_ii, isi_ib, isi_il, isi_it, isi_in, isi_bs, isi_bi, isi_bb, isi_bl, isi_bt, isi_bn, isi_ls, isi_li, isi_lb, isi_ll, isi_lt, isi_ln, isi_ts, isi_ti, isi_tb, isi_tl, isi_tt, isi_tn, tl_s, tl_i, tl_b, tl_l, tl_t, tl_n, List.getElem?_cons_zero, List.getElem?_cons_succ, List.set_cons_zero, List.set_cons_succ, List.length_cons, List.length_nil, Nat.reduceAdd, Nat.reduceLT, Nat.reduceLeDiff, Nat.zero_lt_succ, D.bl.injEq, D.int.injEq, D.str.injEq, exists_eq_left', exists_eq_left, true_and, and_true, forall_const, Bool.true_and, Bool.and_true, Bool.false_eq_true, Bool.not_true, Bool.not_false, if_true, true_implies, false_implies, eq_self, Bool.true_eq_false, reduceCtorEq, decide_true, decide_eq_true_eq, decide_eq_false_iff_not, Decidable.not_not, beq_self_eq_true, not_true_eq_false, not_false_eq_true, Bool.not_eq_true', Bool.not_eq_false', Option.some.injEq, wipeD, List.map_cons, List.map_nil, List.foldr_cons, List.foldr_nil, tgName, tgTup, tgNames, Option.bind_some, and_self])
  refine wp_call rfl ?_
  (try simp only [w_var, w_bor, w_kint, w_kstr, w_kbl, w_knon, w_gint, w_gstr, w_bin, w_binN, w_cmp, w_ix, w_chn, chnW_b, w_neg, w_notv, w_one, w_andv, w_orv, w_ite, w_tup, w_lst, w_cal, w_listN, w_tupC, w_intC, w_isi, w_isi2', w_sl, w_slN, w_pn, w_ps, w_nil, w_cons, w_tval, w_tcmp, w_tchn, w_tnot, w_tw, w_tone, w_tyes, w_tand, w_tor, w_seq, w_r1, w_r2, w_r3, w_fld, w_prop, w_enu, w_lrg, w_ltx, w_srt, Fl.f, w_snil, w_scons, w_ret, w_retN, w_asg, w_own, w_expr, w_if, w_for, w_brk, w_cnt, w_pass, w_raise, w_app2, ownL_o, w_par, w_unp, w_lcAf, w_lcAt, wp_of_some, wp_of_ite, wp_ok, wp_bad, wp_exc, wp_nx, wp_rt, wp_bk, wp_ct, wp_xc, wp_no, getV, borV, Bo.f, BoN.f, Co.f, Bi.f, Tg.t, addD_i, addD_s, addD_t, catD_l, subD_i, mulD_i, mulD_s, mulD_t, repD_l, fdivD_i, modD_i, eqD_s, eqD_i, eqD_b, neD_s, neD_i, neD_b, ltD_i, gtD_i, leD_i, geD_i, isND_n, notND_n, nonD_n, nonD_s, nonD_i, nonD_b, nonD_l, nonD_t, inD_s, ninD_s, ixD_l, ixD_t, lenD_l, lenD_t, lenD_s, max2_i, min2_i, listL_l, listL_t, tupL_l, tupL_t, int1_i, items_l, items_t, items_s, rng1_i, rng2_i, slD_s, slD_t, slN_l, isi_ss, isi_si, isi_sb, isi_sl, isi_st, isi_sn, isi_is, isi_ii, isi_ib, isi_il, isi_it, isi_in, isi_bs, isi_bi, isi_bb, isi_bl, isi_bt, isi_bn, isi_ls, isi_li, isi_lb, isi_ll, isi_lt, isi_ln, isi_ts, isi_ti, isi_tb, isi_tl, isi_tt, isi_tn, tl_s, tl_i, tl_b, tl_l, tl_t, tl_n, List.getElem?_cons_zero, List.getElem?_cons_succ, List.set_cons_zero, List.set_cons_succ, List.length_cons, List.length_nil, Nat.reduceAdd, Nat.reduceLT, Nat.reduceLeDiff, Nat.zero_lt_succ, D.bl.injEq, D.int.injEq, D.str.injEq, exists_eq_left', exists_eq_left, true_and, and_true, forall_const, Bool.true_and, Bool.and_true, Bool.false_eq_true, Bool.not_true, Bool.not_false, if_true, true_implies, false_implies, eq_self, Bool.true_eq_false, reduceCtorEq, decide_true, decide_eq_true_eq, decide_eq_false_iff_not, Decidable.not_not, beq_self_eq_true, not_true_eq_false, not_false_eq_true, Bool.not_eq_true', Bool.not_eq_false', Option.some.injEq, wipeD, List.map_cons, List.map_nil, List.foldr_cons, List.foldr_nil, tgName, tgTup, tgNames, Option.bind_some, and_self])
  refine ⟨by decide, _, v_is_string (by decide) (by omega), _, rfl, ?_⟩
  have e : (w.all fun c => decide (c ∈ [97, 98, 99, 100].take (Int.toNat (4 : Nat)))) = true := by
    simp only [List.all_eq_true, decide_eq_true_eq]
    intro c hc
    exact mem_abcd.mpr (hw c hc)
  have e1 : (1 : Int) ≤ (w.length : Int) := by omega
  have e2 : ((w.length : Nat) : Int) ≤ 99 := by omega
  (try simp only [w_var, w_bor, w_kint, w_kstr, w_kbl, w_knon, w_gint, w_gstr, w_bin, w_binN, w_cmp, w_ix, w_chn, chnW_b, w_neg, w_notv, w_one, w_andv, w_orv, w_ite, w_tup, w_lst, w_cal, w_listN, w_tupC, w_intC, w_isi, w_isi2', w_sl, w_slN, w_pn, w_ps, w_nil, w_cons, w_tval, w_tcmp, w_tchn, w_tnot, w_tw, w_tone, w_tyes, w_tand, w_tor, w_seq, w_r1, w_r2, w_r3, w_fld, w_prop, w_enu, w_lrg, w_ltx, w_srt, Fl.f, w_snil, w_scons, w_ret, w_retN, w_asg, w_own, w_expr, w_if, w_for, w_brk, w_cnt, w_pass, w_raise, w_app2, ownL_o, w_par, w_unp, w_lcAf, w_lcAt, wp_of_some, wp_of_ite, wp_ok, wp_bad, wp_exc, wp_nx, wp_rt, wp_bk, wp_ct, wp_xc, wp_no, getV, borV, Bo.f, BoN.f, Co.f, Bi.f, Tg.t, addD_i, addD_s, addD_t, catD_l, subD_i, mulD_i, mulD_s, mulD_t, repD_l, fdivD_i, modD_i, eqD_s, eqD_i, eqD_b, neD_s, neD_i, neD_b, ltD_i, gtD_i, leD_i, geD_i, isND_n, notND_n, nonD_n, nonD_s, nonD_i, nonD_b, nonD_l, nonD_t, inD_s, ninD_s, ixD_l, ixD_t, lenD_l, lenD_t, lenD_s, max2_i, min2_i, listL_l, listL_t, tupL_l, tupL_t, int1_i, items_l, items_t, items_s, rng1_i, rng2_i, slD_s, slD_t, slN_l, isi_ss, isi_si, isi_sb, isi_sl, isi_st, isi_sn, isi_is, isi_ii, isi_ib, isi_il, isi_it, isi_in, isi_bs, isi_bi, isi_bb, isi_bl, isi_bt, isi_bn, isi_ls, isi_li, isi_lb, isi_ll, isi_lt, isi_ln, isi_ts, isi_ti, isi_tb, isi_tl, isi_tt, isi_tn, tl_s, tl_i, tl_b, tl_l, tl_t, tl_n, List.getElem?_cons_zero, List.getElem?_cons_succ, List.set_cons_zero, List.set_cons_succ, List.length_cons, List.length_nil, Nat.reduceAdd, Nat.reduceLT, Nat.reduceLeDiff, Nat.zero_lt_succ, D.bl.injEq, D.int.injEq, D.str.injEq, exists_eq_left', exists_eq_left, true_and, and_true, forall_const, Bool.true_and, Bool.and_true, Bool.false_eq_true, Bool.not_true, Bool.not_false, if_true, true_implies, false_implies, eq_self, Bool.true_eq_false, reduceCtorEq, decide_true, decide_eq_true_eq, decide_eq_false_iff_not, Decidable.not_not, beq_self_eq_true, not_true_eq_false, not_false_eq_true, Bool.not_eq_true', Bool.not_eq_false', Option.some.injEq, wipeD, List.map_cons, List.map_nil, List.foldr_cons, List.foldr_nil, tgName, tgTup, tgNames, Option.bind_some, and_self, e, e1, e2])
  (first | assumption | omega | (simp only [LN, big, rot_len, List.length_append, List.length_drop, List.length_take, List.length_map, List.length_cons, List.length_nil, List.length_range, Bool.and_eq_true, decide_eq_true_eq] at *; omega))
theorem v_is_simple {w : Wd} (hw : isL 4 w) (h0 : 1 ≤ w.length) (h1 : w.length ≤ 99) : sem_is_simple [.str w] = .ok (.bl ((List.range (w.length - 1)).all fun i => decide (rot w (i + 1) ≠ w))) := by
  refine semP_wp rfl ?_
  unfold il_is_simple
  show Rst.wp (evB _ _ ⟨[some (.im (.str w)), none], ⟨0, [], 0⟩⟩) _ _
  (try simp only [w_var, w_bor, w_kint, w_kstr, w_kbl, w_knon, w_gint, w_gstr, w_bin, w_binN, w_cmp, w_ix, w_chn, chnW_b, w_neg, w_notv, w_one, w_andv, w_orv, w_ite, w_tup, w_lst, w_cal, w_listN, w_tupC, w_intC, w_isi, w_isi2', w_sl, w_slN, w_pn, w_ps, w_nil, w_cons, w_tval, w_tcmp, w_tchn, w_tnot, w_tw, w_tone, w_tyes, w_tand, w_tor, w_seq, w_r1, w_r2, w_r3, w_fld, w_prop, w_enu, w_lrg, w_ltx, w_srt, Fl.f, w_snil, w_scons, w_ret, w_retN, w_asg, w_own, w_expr, w_if, w_for, w_brk, w_cnt, w_pass, w_raise, w_app2, ownL_o, w_par, w_unp, w_lcAf, w_lcAt, wp_of_some, wp_of_ite, wp_ok, wp_bad, wp_exc, wp_nx, wp_rt, wp_bk, wp_ct, wp_xc, wp_no, getV, borV, Bo.f, BoN.f, Co.f, Bi.f, Tg.t, addD_i, addD_s, addD_t, catD_l, subD_i, mulD_i, mulD_s, mulD_t, repD_l, fdivD_i, modD_i, eqD_s, eqD_i, eqD_b, neD_s, neD_i, neD_b, ltD_i, gtD_i, leD_i, geD_i, isND_n, notND_n, nonD_n, nonD_s, nonD_i, nonD_b, nonD_l, nonD_t, inD_s, ninD_s, ixD_l, ixD_t, lenD_l, lenD_t, lenD_s, max2_i, min2_i, listL_l, listL_t, tupL_l, tupL_t, int1_i, items_l, items_t, items_s, rng1_i, rng2_i, slD_s, slD_t, slN_l, isi_ss, isi_si, isi_sb, isi_sl, isi_st, isi_sn, isi_is, isi_ii, isi_ib, isi_il, isi_it, isi_in, isi_bs, isi_bi, isi_bb, isi_bl, isi_bt, isi_bn, isi_ls, isi_li, isi_lb, isi_ll, isi_lt, isi_ln, isi_ts, isi_ti, isi_tb, isi_tl, isi_tt, isi_tn, tl_s, tl_i, tl_b, tl_l, tl_t, tl_n, List.getElem?_cons_zero, List.getElem?_cons_succ, List.set_cons_zero, List.set_cons_succ, List.length_cons, List.length_nil, Nat.reduceAdd, Nat.reduceLT, Nat.reduceLeDiff, Nat.zero_lt_succ, D.bl.injEq, D.int.injEq, D.str.injEq, exists_eq_left', exists_eq_left, true_and, and_true, forall_const, Bool.true_and, Bool.and_true, Bool.false_eq_true, Bool.not_true, Bool.not_false, if_true, true_implies, false_implies, eq_self, Bool.true_eq_false, reduceCtorEq, decide_true, decide_eq_true_eq, decide_eq_false_iff_not, Decidable.not_not, beq_self_eq_true, not_true_eq_false, not_false_eq_true, Bool.not_eq_true', Bool.not_eq_false', Option.some.injEq, wipeD, List.map_cons, List.map_nil, List.foldr_cons, List.foldr_nil, tgName, tgTup, tgNames, Option.bind_some, and_self])
  refine wp_call rfl ?_
  (try simp only [w_var, w_bor, w_kint, w_kstr, w_kbl, w_knon, w_gint, w_gstr, w_bin, w_binN, w_cmp, w_ix, w_chn, chnW_b, w_neg, w_notv, w_one, w_andv, w_orv, w_ite, w_tup, w_lst, w_cal, w_listN, w_tupC, w_intC, w_isi, w_isi2', w_sl, w_slN, w_pn, w_ps, w_nil, w_cons, w_tval, w_tcmp, w_tchn, w_tnot, w_tw, w_tone, w_tyes, w_tand, w_tor, w_seq, w_r1, w_r2, w_r3, w_fld, w_prop, w_enu, w_lrg, w_ltx, w_srt, Fl.f, w_snil, w_scons, w_ret, w_retN, w_asg, w_own, w_expr, w_if, w_for, w_brk, w_cnt, w_pass, w_raise, w_app2, ownL_o, w_par, w_unp, w_lcAf, w_lcAt, wp_of_some, wp_of_ite, wp_ok, wp_bad, wp_exc, wp_nx, wp_rt, wp_bk, wp_ct, wp_xc, wp_no, getV, borV, Bo.f, BoN.f, Co.f, Bi.f, Tg.t, addD_i, addD_s, addD_t, catD_l, subD_i, mulD_i, mulD_s, mulD_t, repD_l, fdivD_i, modD_i, eqD_s, eqD_i, eqD_b, neD_s, neD_i, neD_b, ltD_i, gtD_i, leD_i, geD_i, isND_n, notND_n, nonD_n, nonD_s, nonD_i, nonD_b, nonD_l, nonD_t, inD_s, ninD_s, ixD_l, ixD_t, lenD_l, lenD_t, lenD_s, max2_i, min2_i, listL_l, listL_t, tupL_l, tupL_t, int1_i, items_l, items_t, items_s, rng1_i, rng2_i, slD_s, slD_t, slN_l, isi_ss, isi_si, isi_sb, isi_sl, isi_st, isi_sn, isi_is, isi_ii, isi_ib, isi_il, isi_it, isi_in, isi_bs, isi_bi, isi_bb, isi_bl, isi_bt, isi_bn, isi_ls, isi_li, isi_lb, isi_ll, isi_lt, isi_ln, isi_ts, isi_ti, isi_tb, isi_tl, isi_tt, isi_tn, tl_s, tl_i, tl_b, tl_l, tl_t, tl_n, List.getElem?_cons_zero, List.getElem?_cons_succ, List.set_cons_zero, List.set_cons_succ, List.length_cons, List.length_nil, Nat.reduceAdd, Nat.reduceLT, Nat.reduceLeDiff, Nat.zero_lt_succ, D.bl.injEq, D.int.injEq, D.str.injEq, exists_eq_left', exists_eq_left, true_and, and_true, forall_const, Bool.true_and, Bool.and_true, Bool.false_eq_true, Bool.not_true, Bool.not_false, if_true, true_implies, false_implies, eq_self, Bool.true_eq_false, reduceCtorEq, decide_true, decide_eq_true_eq, decide_eq_false_iff_not, Decidable.not_not, beq_self_eq_true, not_true_eq_false, not_false_eq_true, Bool.not_eq_true', Bool.not_eq_false', Option.some.injEq, wipeD, List.map_cons, List.map_nil, List.foldr_cons, List.foldr_nil, tgName, tgTup, tgNames, Option.bind_some, and_self])
  refine ⟨_, v_check hw h0 h1, ?_⟩
  refine wp_lcm (fun i : Nat => .int (1 + (i : Int))) (fun i => .bl (decide (rot w (i + 1) ≠ w))) ?_
  (try simp only [w_var, w_bor, w_kint, w_kstr, w_kbl, w_knon, w_gint, w_gstr, w_bin, w_binN, w_cmp, w_ix, w_chn, chnW_b, w_neg, w_notv, w_one, w_andv, w_orv, w_ite, w_tup, w_lst, w_cal, w_listN, w_tupC, w_intC, w_isi, w_isi2', w_sl, w_slN, w_pn, w_ps, w_nil, w_cons, w_tval, w_tcmp, w_tchn, w_tnot, w_tw, w_tone, w_tyes, w_tand, w_tor, w_seq, w_r1, w_r2, w_r3, w_fld, w_prop, w_enu, w_lrg, w_ltx, w_srt, Fl.f, w_snil, w_scons, w_ret, w_retN, w_asg, w_own, w_expr, w_if, w_for, w_brk, w_cnt, w_pass, w_raise, w_app2, ownL_o, w_par, w_unp, w_lcAf, w_lcAt, wp_of_some, wp_of_ite, wp_ok, wp_bad, wp_exc, wp_nx, wp_rt, wp_bk, wp_ct, wp_xc, wp_no, getV, borV, Bo.f, BoN.f, Co.f, Bi.f, Tg.t, addD_i, addD_s, addD_t, catD_l, subD_i, mulD_i, mulD_s, mulD_t, repD_l, fdivD_i, modD_i, eqD_s, eqD_i, eqD_b, neD_s, neD_i, neD_b, ltD_i, gtD_i, leD_i, geD_i, isND_n, notND_n, nonD_n, nonD_s, nonD_i, nonD_b, nonD_l, nonD_t, inD_s, ninD_s, ixD_l, ixD_t, lenD_l, lenD_t, lenD_s, max2_i, min2_i, listL_l, listL_t, tupL_l, tupL_t, int1_i, items_l, items_t, items_s, rng1_i, rng2_i, slD_s, slD_t, slN_l, isi_ss, isi_si, isi_sb, isi_sl, isi_st, isi_sn, isi_is, isi_ii, isi_ib, isi_il, isi_it, isi_in, isi_bs, isi_bi, isi_bb, isi_bl, isi_bt, isi_bn, isi_ls, isi_li, isi_lb, isi_ll, isi_lt, isi_ln, isi_ts, isi_ti, isi_tb, isi_tl, isi_tt, isi_tn, tl_s, tl_i, tl_b, tl_l, tl_t, tl_n, List.getElem?_cons_zero, List.getElem?_cons_succ, List.set_cons_zero, List.set_cons_succ, List.length_cons, List.length_nil, Nat.reduceAdd, Nat.reduceLT, Nat.reduceLeDiff, Nat.zero_lt_succ, D.bl.injEq, D.int.injEq, D.str.injEq, exists_eq_left', exists_eq_left, true_and, and_true, forall_const, Bool.true_and, Bool.and_true, Bool.false_eq_true, Bool.not_true, Bool.not_false, if_true, true_implies, false_implies, eq_self, Bool.true_eq_false, reduceCtorEq, decide_true, decide_eq_true_eq, decide_eq_false_iff_not, Decidable.not_not, beq_self_eq_true, not_true_eq_false, not_false_eq_true, Bool.not_eq_true', Bool.not_eq_false', Option.some.injEq, wipeD, List.map_cons, List.map_nil, List.foldr_cons, List.foldr_nil, tgName, tgTup, tgNames, Option.bind_some, and_self, allL_map])
  refine ⟨by (first | assumption | omega | (simp only [LN, big, rot_len, List.length_append, List.length_drop, List.length_take, List.length_map, List.length_cons, List.length_nil, List.length_range, Bool.and_eq_true, decide_eq_true_eq] at *; omega)), by (first | assumption | omega | (simp only [LN, big, rot_len, List.length_append, List.length_drop, List.length_take, List.length_map, List.length_cons, List.length_nil, List.length_range, Bool.and_eq_true, decide_eq_true_eq] at *; omega)), rfl, List.range (w.length - 1), ?_, by (first | assumption | omega | (simp only [LN, big, rot_len, List.length_append, List.length_drop, List.length_take, List.length_map, List.length_cons, List.length_nil, List.length_range, Bool.and_eq_true, decide_eq_true_eq] at *; omega)), fun i hi => ?_, _, rfl⟩
  · unfold rangeD; congr 2; omega
  · refine wp_call rfl ?_
    (try simp only [w_var, w_bor, w_kint, w_kstr, w_kbl, w_knon, w_gint, w_gstr, w_bin, w_binN, w_cmp, w_ix, w_chn, chnW_b, w_neg, w_notv, w_one, w_andv, w_orv, w_ite, w_tup, w_lst, w_cal, w_listN, w_tupC, w_intC, w_isi, w_isi2', w_sl, w_slN, w_pn, w_ps, w_nil, w_cons, w_tval, w_tcmp, w_tchn, w_tnot, w_tw, w_tone, w_tyes, w_tand, w_tor, w_seq, w_r1, w_r2, w_r3, w_fld, w_prop, w_enu, w_lrg, w_ltx, w_srt, Fl.f, w_snil, w_scons, w_ret, w_retN, w_asg, w_own, w_expr, w_if, w_for, w_brk, w_cnt, w_pass, w_raise, w_app2, ownL_o, w_par, w_unp, w_lcAf, w_lcAt, wp_of_some, wp_of_ite, wp_ok, wp_bad, wp_exc, wp_nx, wp_rt, wp_bk, wp_ct, wp_xc, wp_no, getV, borV, Bo.f, BoN.f, Co.f, Bi.f, Tg.t, addD_i, addD_s, addD_t, catD_l, subD_i, mulD_i, mulD_s, mulD_t, repD_l, fdivD_i, modD_i, eqD_s, eqD_i, eqD_b, neD_s, neD_i, neD_b, ltD_i, gtD_i, leD_i, geD_i, isND_n, notND_n, nonD_n, nonD_s, nonD_i, nonD_b, nonD_l, nonD_t, inD_s, ninD_s, ixD_l, ixD_t, lenD_l, lenD_t, lenD_s, max2_i, min2_i, listL_l, listL_t, tupL_l, tupL_t, int1_i, items_l, items_t, items_s, rng1_i, rng2_i, slD_s, slD_t, slN_l, isi_ss, isi_si, isi_sb, isi_sl, isi_st, isi_sn, isi_is, isi_ii, isi_ib, isi_il, isi_it, isi_in, isi_bs, isi_bi, isi_bb, isi_bl, isi_bt, isi_bn, isi_ls, isi_li, isi_lb, isi_ll, isi_lt, isi_ln, isi_ts, isi_ti, isi_tb, isi_tl, isi_tt, isi_tn, tl_s, tl_i, tl_b, tl_l, tl_t, tl_n, List.getElem?_cons_zero, List.getElem?_cons_succ, List.set_cons_zero, List.set_cons_succ, List.length_cons, List.length_nil, Nat.reduceAdd, Nat.reduceLT, Nat.reduceLeDiff, Nat.zero_lt_succ, D.bl.injEq, D.int.injEq, D.str.injEq, exists_eq_left', exists_eq_left, true_and, and_true, forall_const, Bool.true_and, Bool.and_true, Bool.false_eq_true, Bool.not_true, Bool.not_false, if_true, true_implies, false_implies, eq_self, Bool.true_eq_false, reduceCtorEq, decide_true, decide_eq_true_eq, decide_eq_false_iff_not, Decidable.not_not, beq_self_eq_true, not_true_eq_false, not_false_eq_true, Bool.not_eq_true', Bool.not_eq_false', Option.some.injEq, wipeD, List.map_cons, List.map_nil, List.foldr_cons, List.foldr_nil, tgName, tgTup, tgNames, Option.bind_some, and_self])
    refine ⟨_, v_turn (by omega) (by omega), ?_⟩
    (try simp only [w_var, w_bor, w_kint, w_kstr, w_kbl, w_knon, w_gint, w_gstr, w_bin, w_binN, w_cmp, w_ix, w_chn, chnW_b, w_neg, w_notv, w_one, w_andv, w_orv, w_ite, w_tup, w_lst, w_cal, w_listN, w_tupC, w_intC, w_isi, w_isi2', w_sl, w_slN, w_pn, w_ps, w_nil, w_cons, w_tval, w_tcmp, w_tchn, w_tnot, w_tw, w_tone, w_tyes, w_tand, w_tor, w_seq, w_r1, w_r2, w_r3, w_fld, w_prop, w_enu, w_lrg, w_ltx, w_srt, Fl.f, w_snil, w_scons, w_ret, w_retN, w_asg, w_own, w_expr, w_if, w_for, w_brk, w_cnt, w_pass, w_raise, w_app2, ownL_o, w_par, w_unp, w_lcAf, w_lcAt, wp_of_some, wp_of_ite, wp_ok, wp_bad, wp_exc, wp_nx, wp_rt, wp_bk, wp_ct, wp_xc, wp_no, getV, borV, Bo.f, BoN.f, Co.f, Bi.f, Tg.t, addD_i, addD_s, addD_t, catD_l, subD_i, mulD_i, mulD_s, mulD_t, repD_l, fdivD_i, modD_i, eqD_s, eqD_i, eqD_b, neD_s, neD_i, neD_b, ltD_i, gtD_i, leD_i, geD_i, isND_n, notND_n, nonD_n, nonD_s, nonD_i, nonD_b, nonD_l, nonD_t, inD_s, ninD_s, ixD_l, ixD_t, lenD_l, lenD_t, lenD_s, max2_i, min2_i, listL_l, listL_t, tupL_l, tupL_t, int1_i, items_l, items_t, items_s, rng1_i, rng2_i, slD_s, slD_t, slN_l, isi_ss, isi_si, isi_sb, isi_sl, isi_st, isi_sn, isi_is, isi_ii, isi_ib, isi_il, isi_it, isi_in, isi_bs, isi_bi, isi_bb, isi_bl, isi_bt, isi_bn, isi_ls, isi_li, isi_lb, isi_ll, isi_lt, isi_ln, isi_ts, isi_ti, isi_tb, isi_tl, isi_tt, isi_tn, tl_s, tl_i, tl_b, tl_l, tl_t, tl_n, List.getElem?_cons_zero, List.getElem?_cons_succ, List.set_cons_zero, List.set_cons_succ, List.length_cons, List.length_nil, Nat.reduceAdd, Nat.reduceLT, Nat.reduceLeDiff, Nat.zero_lt_succ, D.bl.injEq, D.int.injEq, D.str.injEq, exists_eq_left', exists_eq_left, true_and, and_true, forall_const, Bool.true_and, Bool.and_true, Bool.false_eq_true, Bool.not_true, Bool.not_false, if_true, true_implies, false_implies, eq_self, Bool.true_eq_false, reduceCtorEq, decide_true, decide_eq_true_eq, decide_eq_false_iff_not, Decidable.not_not, beq_self_eq_true, not_true_eq_false, not_false_eq_true, Bool.not_eq_true', Bool.not_eq_false', Option.some.injEq, wipeD, List.map_cons, List.map_nil, List.foldr_cons, List.foldr_nil, tgName, tgTup, tgNames, Option.bind_some, and_self])
    rw [show (1 + (i : Int)).toNat = i + 1 by omega]
    simp
theorem v_turns {w : Wd} (h1 : w.length ≤ 1000) : sem__law_turns [.str w] = .ok (.lst ((turns w).map .str)) := by
  refine semP_wp rfl ?_
  unfold il__law_turns
  show Rst.wp (evB _ _ ⟨[some (.im (.str w)), none], ⟨0, [], 0⟩⟩) _ _
  (try simp only [w_var, w_bor, w_kint, w_kstr, w_kbl, w_knon, w_gint, w_gstr, w_bin, w_binN, w_cmp, w_ix, w_chn, chnW_b, w_neg, w_notv, w_one, w_andv, w_orv, w_ite, w_tup, w_lst, w_cal, w_listN, w_tupC, w_intC, w_isi, w_isi2', w_sl, w_slN, w_pn, w_ps, w_nil, w_cons, w_tval, w_tcmp, w_tchn, w_tnot, w_tw, w_tone, w_tyes, w_tand, w_tor, w_seq, w_r1, w_r2, w_r3, w_fld, w_prop, w_enu, w_lrg, w_ltx, w_srt, Fl.f, w_snil, w_scons, w_ret, w_retN, w_asg, w_own, w_expr, w_if, w_for, w_brk, w_cnt, w_pass, w_raise, w_app2, ownL_o, w_par, w_unp, w_lcAf, w_lcAt, wp_of_some, wp_of_ite, wp_ok, wp_bad, wp_exc, wp_nx, wp_rt, wp_bk, wp_ct, wp_xc, wp_no, getV, borV, Bo.f, BoN.f, Co.f, Bi.f, Tg.t, addD_i, addD_s, addD_t, catD_l, subD_i, mulD_i, mulD_s, mulD_t, repD_l, fdivD_i, modD_i, eqD_s, eqD_i, eqD_b, neD_s, neD_i, neD_b, ltD_i, gtD_i, leD_i, geD_i, isND_n, notND_n, nonD_n, nonD_s, nonD_i, nonD_b, nonD_l, nonD_t, inD_s, ninD_s, ixD_l, ixD_t, lenD_l, lenD_t, lenD_s, max2_i, min2_i, listL_l, listL_t, tupL_l, tupL_t, int1_i, items_l, items_t, items_s, rng1_i, rng2_i, slD_s, slD_t, slN_l, isi_ss, isi_si, isi_sb, isi_sl, isi_st, isi_sn, isi_is, isi_ii, isi_ib, isi_il, isi_it, isi_in, isi_bs, isi_bi, isi_bb, isi_bl, isi_bt, isi_bn, isi_ls, isi_li, isi_lb, isi_ll, isi_lt, isi_ln, isi_ts, isi_ti, isi_tb, isi_tl, isi_tt, isi_tn, tl_s, tl_i, tl_b, tl_l, tl_t, tl_n, List.getElem?_cons_zero, List.getElem?_cons_succ, List.set_cons_zero, List.set_cons_succ, List.length_cons, List.length_nil, Nat.reduceAdd, Nat.reduceLT, Nat.reduceLeDiff, Nat.zero_lt_succ, D.bl.injEq, D.int.injEq, D.str.injEq, exists_eq_left', exists_eq_left, true_and, and_true, forall_const, Bool.true_and, Bool.and_true, Bool.false_eq_true, Bool.not_true, Bool.not_false, if_true, true_implies, false_implies, eq_self, Bool.true_eq_false, reduceCtorEq, decide_true, decide_eq_true_eq, decide_eq_false_iff_not, Decidable.not_not, beq_self_eq_true, not_true_eq_false, not_false_eq_true, Bool.not_eq_true', Bool.not_eq_false', Option.some.injEq, wipeD, List.map_cons, List.map_nil, List.foldr_cons, List.foldr_nil, tgName, tgTup, tgNames, Option.bind_some, and_self])
  refine wp_lcm (fun i : Nat => .int (0 + (i : Int))) (fun i => .str (rot w i)) ?_
  (try simp only [w_var, w_bor, w_kint, w_kstr, w_kbl, w_knon, w_gint, w_gstr, w_bin, w_binN, w_cmp, w_ix, w_chn, chnW_b, w_neg, w_notv, w_one, w_andv, w_orv, w_ite, w_tup, w_lst, w_cal, w_listN, w_tupC, w_intC, w_isi, w_isi2', w_sl, w_slN, w_pn, w_ps, w_nil, w_cons, w_tval, w_tcmp, w_tchn, w_tnot, w_tw, w_tone, w_tyes, w_tand, w_tor, w_seq, w_r1, w_r2, w_r3, w_fld, w_prop, w_enu, w_lrg, w_ltx, w_srt, Fl.f, w_snil, w_scons, w_ret, w_retN, w_asg, w_own, w_expr, w_if, w_for, w_brk, w_cnt, w_pass, w_raise, w_app2, ownL_o, w_par, w_unp, w_lcAf, w_lcAt, wp_of_some, wp_of_ite, wp_ok, wp_bad, wp_exc, wp_nx, wp_rt, wp_bk, wp_ct, wp_xc, wp_no, getV, borV, Bo.f, BoN.f, Co.f, Bi.f, Tg.t, addD_i, addD_s, addD_t, catD_l, subD_i, mulD_i, mulD_s, mulD_t, repD_l, fdivD_i, modD_i, eqD_s, eqD_i, eqD_b, neD_s, neD_i, neD_b, ltD_i, gtD_i, leD_i, geD_i, isND_n, notND_n, nonD_n, nonD_s, nonD_i, nonD_b, nonD_l, nonD_t, inD_s, ninD_s, ixD_l, ixD_t, lenD_l, lenD_t, lenD_s, max2_i, min2_i, listL_l, listL_t, tupL_l, tupL_t, int1_i, items_l, items_t, items_s, rng1_i, rng2_i, slD_s, slD_t, slN_l, isi_ss, isi_si, isi_sb, isi_sl, isi_st, isi_sn, isi_is, isi_ii, isi_ib, isi_il, isi_it, isi_in, isi_bs, isi_bi, isi_bb, isi_bl, isi_bt, isi_bn, isi_ls, isi_li, isi_lb, isi_ll, isi_lt, isi_ln, isi_ts, isi_ti, isi_tb, isi_tl, isi_tt, isi_tn, tl_s, tl_i, tl_b, tl_l, tl_t, tl_n, List.getElem?_cons_zero, List.getElem?_cons_succ, List.set_cons_zero, List.set_cons_succ, List.length_cons, List.length_nil, Nat.reduceAdd, Nat.reduceLT, Nat.reduceLeDiff, Nat.zero_lt_succ, D.bl.injEq, D.int.injEq, D.str.injEq, exists_eq_left', exists_eq_left, true_and, and_true, forall_const, Bool.true_and, Bool.and_true, Bool.false_eq_true, Bool.not_true, Bool.not_false, if_true, true_implies, false_implies, eq_self, Bool.true_eq_false, reduceCtorEq, decide_true, decide_eq_true_eq, decide_eq_false_iff_not, Decidable.not_not, beq_self_eq_true, not_true_eq_false, not_false_eq_true, Bool.not_eq_true', Bool.not_eq_false', Option.some.injEq, wipeD, List.map_cons, List.map_nil, List.foldr_cons, List.foldr_nil, tgName, tgTup, tgNames, Option.bind_some, and_self])
  refine ⟨by (first | assumption | omega | (simp only [LN, big, rot_len, List.length_append, List.length_drop, List.length_take, List.length_map, List.length_cons, List.length_nil, List.length_range, Bool.and_eq_true, decide_eq_true_eq] at *; omega)), by (first | assumption | omega | (simp only [LN, big, rot_len, List.length_append, List.length_drop, List.length_take, List.length_map, List.length_cons, List.length_nil, List.length_range, Bool.and_eq_true, decide_eq_true_eq] at *; omega)), rfl, List.range w.length, ?_, by (first | assumption | omega | (simp only [LN, big, rot_len, List.length_append, List.length_drop, List.length_take, List.length_map, List.length_cons, List.length_nil, List.length_range, Bool.and_eq_true, decide_eq_true_eq] at *; omega)), fun i hi => ?_, ?_⟩
  · unfold rangeD; rfl
  · have h0 : (0 : Int) ≤ 0 + (i : Int) := by omega
    (try simp only [w_var, w_bor, w_kint, w_kstr, w_kbl, w_knon, w_gint, w_gstr, w_bin, w_binN, w_cmp, w_ix, w_chn, chnW_b, w_neg, w_notv, w_one, w_andv, w_orv, w_ite, w_tup, w_lst, w_cal, w_listN, w_tupC, w_intC, w_isi, w_isi2', w_sl, w_slN, w_pn, w_ps, w_nil, w_cons, w_tval, w_tcmp, w_tchn, w_tnot, w_tw, w_tone, w_tyes, w_tand, w_tor, w_seq, w_r1, w_r2, w_r3, w_fld, w_prop, w_enu, w_lrg, w_ltx, w_srt, Fl.f, w_snil, w_scons, w_ret, w_retN, w_asg, w_own, w_expr, w_if, w_for, w_brk, w_cnt, w_pass, w_raise, w_app2, ownL_o, w_par, w_unp, w_lcAf, w_lcAt, wp_of_some, wp_of_ite, wp_ok, wp_bad, wp_exc, wp_nx, wp_rt, wp_bk, wp_ct, wp_xc, wp_no, getV, borV, Bo.f, BoN.f, Co.f, Bi.f, Tg.t, addD_i, addD_s, addD_t, catD_l, subD_i, mulD_i, mulD_s, mulD_t, repD_l, fdivD_i, modD_i, eqD_s, eqD_i, eqD_b, neD_s, neD_i, neD_b, ltD_i, gtD_i, leD_i, geD_i, isND_n, notND_n, nonD_n, nonD_s, nonD_i, nonD_b, nonD_l, nonD_t, inD_s, ninD_s, ixD_l, ixD_t, lenD_l, lenD_t, lenD_s, max2_i, min2_i, listL_l, listL_t, tupL_l, tupL_t, int1_i, items_l, items_t, items_s, rng1_i, rng2_i, slD_s, slD_t, slN_l, isi_ss, isi_si, isi_sb, isi_sl, isi_st, isi_sn, isi_is, isi_ii, isi_ib, isi_il, isi_it, isi_in, isi_bs, isi_bi, isi_bb, isi_bl, isi_bt, isi_bn, isi_ls, isi_li, isi_lb, isi_ll, isi_lt, isi_ln, isi_ts, isi_ti, isi_tb, isi_tl, isi_tt, isi_tn, tl_s, tl_i, tl_b, tl_l, tl_t, tl_n, List.getElem?_cons_zero, List.getElem?_cons_succ, List.set_cons_zero, List.set_cons_succ, List.length_cons, List.length_nil, Nat.reduceAdd, Nat.reduceLT, Nat.reduceLeDiff, Nat.zero_lt_succ, D.bl.injEq, D.int.injEq, D.str.injEq, exists_eq_left', exists_eq_left, true_and, and_true, forall_const, Bool.true_and, Bool.and_true, Bool.false_eq_true, Bool.not_true, Bool.not_false, if_true, true_implies, false_implies, eq_self, Bool.true_eq_false, reduceCtorEq, decide_true, decide_eq_true_eq, decide_eq_false_iff_not, Decidable.not_not, beq_self_eq_true, not_true_eq_false, not_false_eq_true, Bool.not_eq_true', Bool.not_eq_false', Option.some.injEq, wipeD, List.map_cons, List.map_nil, List.foldr_cons, List.foldr_nil, tgName, tgTup, tgNames, Option.bind_some, and_self, cut_from _ h0, cut_to _ h0])
    refine ⟨by (first | assumption | omega | (simp only [LN, big, rot_len, List.length_append, List.length_drop, List.length_take, List.length_map, List.length_cons, List.length_nil, List.length_range, Bool.and_eq_true, decide_eq_true_eq] at *; omega)), by (first | assumption | omega | (simp only [LN, big, rot_len, List.length_append, List.length_drop, List.length_take, List.length_map, List.length_cons, List.length_nil, List.length_range, Bool.and_eq_true, decide_eq_true_eq] at *; omega)), by (first | assumption | omega | (simp only [LN, big, rot_len, List.length_append, List.length_drop, List.length_take, List.length_map, List.length_cons, List.length_nil, List.length_range, Bool.and_eq_true, decide_eq_true_eq] at *; omega)), ?_⟩
    rw [show (0 + (i : Int)).toNat = i by omega]
    rfl
  · unfold turns
    rw [List.map_map]; exact ⟨_, rfl⟩
theorem v_simple {w : Wd} (h0 : 1 ≤ w.length) (h1 : w.length ≤ 1000) : sem__law_simple [.str w] = .ok (.bl ((List.range (w.length - 1)).all fun i => decide (rot w (i + 1) ≠ w))) := by
  refine semP_wp rfl ?_
  unfold il__law_simple
  show Rst.wp (evB _ _ ⟨[some (.im (.str w)), none], ⟨0, [], 0⟩⟩) _ _
  (try simp only [w_var, w_bor, w_kint, w_kstr, w_kbl, w_knon, w_gint, w_gstr, w_bin, w_binN, w_cmp, w_ix, w_chn, chnW_b, w_neg, w_notv, w_one, w_andv, w_orv, w_ite, w_tup, w_lst, w_cal, w_listN, w_tupC, w_intC, w_isi, w_isi2', w_sl, w_slN, w_pn, w_ps, w_nil, w_cons, w_tval, w_tcmp, w_tchn, w_tnot, w_tw, w_tone, w_tyes, w_tand, w_tor, w_seq, w_r1, w_r2, w_r3, w_fld, w_prop, w_enu, w_lrg, w_ltx, w_srt, Fl.f, w_snil, w_scons, w_ret, w_retN, w_asg, w_own, w_expr, w_if, w_for, w_brk, w_cnt, w_pass, w_raise, w_app2, ownL_o, w_par, w_unp, w_lcAf, w_lcAt, wp_of_some, wp_of_ite, wp_ok, wp_bad, wp_exc, wp_nx, wp_rt, wp_bk, wp_ct, wp_xc, wp_no, getV, borV, Bo.f, BoN.f, Co.f, Bi.f, Tg.t, addD_i, addD_s, addD_t, catD_l, subD_i, mulD_i, mulD_s, mulD_t, repD_l, fdivD_i, modD_i, eqD_s, eqD_i, eqD_b, neD_s, neD_i, neD_b, ltD_i, gtD_i, leD_i, geD_i, isND_n, notND_n, nonD_n, nonD_s, nonD_i, nonD_b, nonD_l, nonD_t, inD_s, ninD_s, ixD_l, ixD_t, lenD_l, lenD_t, lenD_s, max2_i, min2_i, listL_l, listL_t, tupL_l, tupL_t, int1_i, items_l, items_t, items_s, rng1_i, rng2_i, slD_s, slD_t, slN_l, isi_ss, isi_si, isi_sb, isi_sl, isi_st, isi_sn, isi_is, isi_ii, isi_ib, isi_il, isi_it, isi_in, isi_bs, isi_bi, isi_bb, isi_bl, isi_bt, isi_bn, isi_ls, isi_li, isi_lb, isi_ll, isi_lt, isi_ln, isi_ts, isi_ti, isi_tb, isi_tl, isi_tt, isi_tn, tl_s, tl_i, tl_b, tl_l, tl_t, tl_n, List.getElem?_cons_zero, List.getElem?_cons_succ, List.set_cons_zero, List.set_cons_succ, List.length_cons, List.length_nil, Nat.reduceAdd, Nat.reduceLT, Nat.reduceLeDiff, Nat.zero_lt_succ, D.bl.injEq, D.int.injEq, D.str.injEq, exists_eq_left', exists_eq_left, true_and, and_true, forall_const, Bool.true_and, Bool.and_true, Bool.false_eq_true, Bool.not_true, Bool.not_false, if_true, true_implies, false_implies, eq_self, Bool.true_eq_false, reduceCtorEq, decide_true, decide_eq_true_eq, decide_eq_false_iff_not, Decidable.not_not, beq_self_eq_true, not_true_eq_false, not_false_eq_true, Bool.not_eq_true', Bool.not_eq_false', Option.some.injEq, wipeD, List.map_cons, List.map_nil, List.foldr_cons, List.foldr_nil, tgName, tgTup, tgNames, Option.bind_some, and_self])
  refine wp_lcf (fun z : Wd => .str z) (fun z => decide (z = w)) (fun z => .str z) ?_
  (try simp only [w_var, w_bor, w_kint, w_kstr, w_kbl, w_knon, w_gint, w_gstr, w_bin, w_binN, w_cmp, w_ix, w_chn, chnW_b, w_neg, w_notv, w_one, w_andv, w_orv, w_ite, w_tup, w_lst, w_cal, w_listN, w_tupC, w_intC, w_isi, w_isi2', w_sl, w_slN, w_pn, w_ps, w_nil, w_cons, w_tval, w_tcmp, w_tchn, w_tnot, w_tw, w_tone, w_tyes, w_tand, w_tor, w_seq, w_r1, w_r2, w_r3, w_fld, w_prop, w_enu, w_lrg, w_ltx, w_srt, Fl.f, w_snil, w_scons, w_ret, w_retN, w_asg, w_own, w_expr, w_if, w_for, w_brk, w_cnt, w_pass, w_raise, w_app2, ownL_o, w_par, w_unp, w_lcAf, w_lcAt, wp_of_some, wp_of_ite, wp_ok, wp_bad, wp_exc, wp_nx, wp_rt, wp_bk, wp_ct, wp_xc, wp_no, getV, borV, Bo.f, BoN.f, Co.f, Bi.f, Tg.t, addD_i, addD_s, addD_t, catD_l, subD_i, mulD_i, mulD_s, mulD_t, repD_l, fdivD_i, modD_i, eqD_s, eqD_i, eqD_b, neD_s, neD_i, neD_b, ltD_i, gtD_i, leD_i, geD_i, isND_n, notND_n, nonD_n, nonD_s, nonD_i, nonD_b, nonD_l, nonD_t, inD_s, ninD_s, ixD_l, ixD_t, lenD_l, lenD_t, lenD_s, max2_i, min2_i, listL_l, listL_t, tupL_l, tupL_t, int1_i, items_l, items_t, items_s, rng1_i, rng2_i, slD_s, slD_t, slN_l, isi_ss, isi_si, isi_sb, isi_sl, isi_st, isi_sn, isi_is, isi_ii, isi_ib, isi_il, isi_it, isi_in, isi_bs, isi_bi, isi_bb, isi_bl, isi_bt, isi_bn, isi_ls, isi_li, isi_lb, isi_ll, isi_lt, isi_ln, isi_ts, isi_ti, isi_tb, isi_tl, isi_tt, isi_tn, tl_s, tl_i, tl_b, tl_l, tl_t, tl_n, List.getElem?_cons_zero, List.getElem?_cons_succ, List.set_cons_zero, List.set_cons_succ, List.length_cons, List.length_nil, Nat.reduceAdd, Nat.reduceLT, Nat.reduceLeDiff, Nat.zero_lt_succ, D.bl.injEq, D.int.injEq, D.str.injEq, exists_eq_left', exists_eq_left, true_and, and_true, forall_const, Bool.true_and, Bool.and_true, Bool.false_eq_true, Bool.not_true, Bool.not_false, if_true, true_implies, false_implies, eq_self, Bool.true_eq_false, reduceCtorEq, decide_true, decide_eq_true_eq, decide_eq_false_iff_not, Decidable.not_not, beq_self_eq_true, not_true_eq_false, not_false_eq_true, Bool.not_eq_true', Bool.not_eq_false', Option.some.injEq, wipeD, List.map_cons, List.map_nil, List.foldr_cons, List.foldr_nil, tgName, tgTup, tgNames, Option.bind_some, and_self])
  refine wp_call rfl ?_
  (try simp only [w_var, w_bor, w_kint, w_kstr, w_kbl, w_knon, w_gint, w_gstr, w_bin, w_binN, w_cmp, w_ix, w_chn, chnW_b, w_neg, w_notv, w_one, w_andv, w_orv, w_ite, w_tup, w_lst, w_cal, w_listN, w_tupC, w_intC, w_isi, w_isi2', w_sl, w_slN, w_pn, w_ps, w_nil, w_cons, w_tval, w_tcmp, w_tchn, w_tnot, w_tw, w_tone, w_tyes, w_tand, w_tor, w_seq, w_r1, w_r2, w_r3, w_fld, w_prop, w_enu, w_lrg, w_ltx, w_srt, Fl.f, w_snil, w_scons, w_ret, w_retN, w_asg, w_own, w_expr, w_if, w_for, w_brk, w_cnt, w_pass, w_raise, w_app2, ownL_o, w_par, w_unp, w_lcAf, w_lcAt, wp_of_some, wp_of_ite, wp_ok, wp_bad, wp_exc, wp_nx, wp_rt, wp_bk, wp_ct, wp_xc, wp_no, getV, borV, Bo.f, BoN.f, Co.f, Bi.f, Tg.t, addD_i, addD_s, addD_t, catD_l, subD_i, mulD_i, mulD_s, mulD_t, repD_l, fdivD_i, modD_i, eqD_s, eqD_i, eqD_b, neD_s, neD_i, neD_b, ltD_i, gtD_i, leD_i, geD_i, isND_n, notND_n, nonD_n, nonD_s, nonD_i, nonD_b, nonD_l, nonD_t, inD_s, ninD_s, ixD_l, ixD_t, lenD_l, lenD_t, lenD_s, max2_i, min2_i, listL_l, listL_t, tupL_l, tupL_t, int1_i, items_l, items_t, items_s, rng1_i, rng2_i, slD_s, slD_t, slN_l, isi_ss, isi_si, isi_sb, isi_sl, isi_st, isi_sn, isi_is, isi_ii, isi_ib, isi_il, isi_it, isi_in, isi_bs, isi_bi, isi_bb, isi_bl, isi_bt, isi_bn, isi_ls, isi_li, isi_lb, isi_ll, isi_lt, isi_ln, isi_ts, isi_ti, isi_tb, isi_tl, isi_tt, isi_tn, tl_s, tl_i, tl_b, tl_l, tl_t, tl_n, List.getElem?_cons_zero, List.getElem?_cons_succ, List.set_cons_zero, List.set_cons_succ, List.length_cons, List.length_nil, Nat.reduceAdd, Nat.reduceLT, Nat.reduceLeDiff, Nat.zero_lt_succ, D.bl.injEq, D.int.injEq, D.str.injEq, exists_eq_left', exists_eq_left, true_and, and_true, forall_const, Bool.true_and, Bool.and_true, Bool.false_eq_true, Bool.not_true, Bool.not_false, if_true, true_implies, false_implies, eq_self, Bool.true_eq_false, reduceCtorEq, decide_true, decide_eq_true_eq, decide_eq_false_iff_not, Decidable.not_not, beq_self_eq_true, not_true_eq_false, not_false_eq_true, Bool.not_eq_true', Bool.not_eq_false', Option.some.injEq, wipeD, List.map_cons, List.map_nil, List.foldr_cons, List.foldr_nil, tgName, tgTup, tgNames, Option.bind_some, and_self])
  refine ⟨_, v_turns h1, ?_⟩
  (try simp only [w_var, w_bor, w_kint, w_kstr, w_kbl, w_knon, w_gint, w_gstr, w_bin, w_binN, w_cmp, w_ix, w_chn, chnW_b, w_neg, w_notv, w_one, w_andv, w_orv, w_ite, w_tup, w_lst, w_cal, w_listN, w_tupC, w_intC, w_isi, w_isi2', w_sl, w_slN, w_pn, w_ps, w_nil, w_cons, w_tval, w_tcmp, w_tchn, w_tnot, w_tw, w_tone, w_tyes, w_tand, w_tor, w_seq, w_r1, w_r2, w_r3, w_fld, w_prop, w_enu, w_lrg, w_ltx, w_srt, Fl.f, w_snil, w_scons, w_ret, w_retN, w_asg, w_own, w_expr, w_if, w_for, w_brk, w_cnt, w_pass, w_raise, w_app2, ownL_o, w_par, w_unp, w_lcAf, w_lcAt, wp_of_some, wp_of_ite, wp_ok, wp_bad, wp_exc, wp_nx, wp_rt, wp_bk, wp_ct, wp_xc, wp_no, getV, borV, Bo.f, BoN.f, Co.f, Bi.f, Tg.t, addD_i, addD_s, addD_t, catD_l, subD_i, mulD_i, mulD_s, mulD_t, repD_l, fdivD_i, modD_i, eqD_s, eqD_i, eqD_b, neD_s, neD_i, neD_b, ltD_i, gtD_i, leD_i, geD_i, isND_n, notND_n, nonD_n, nonD_s, nonD_i, nonD_b, nonD_l, nonD_t, inD_s, ninD_s, ixD_l, ixD_t, lenD_l, lenD_t, lenD_s, max2_i, min2_i, listL_l, listL_t, tupL_l, tupL_t, int1_i, items_l, items_t, items_s, rng1_i, rng2_i, slD_s, slD_t, slN_l, isi_ss, isi_si, isi_sb, isi_sl, isi_st, isi_sn, isi_is, isi_ii, isi_ib, isi_il, isi_it, isi_in, isi_bs, isi_bi, isi_bb, isi_bl, isi_bt, isi_bn, isi_ls, isi_li, isi_lb, isi_ll, isi_lt, isi_ln, isi_ts, isi_ti, isi_tb, isi_tl, isi_tt, isi_tn, tl_s, tl_i, tl_b, tl_l, tl_t, tl_n, List.getElem?_cons_zero, List.getElem?_cons_succ, List.set_cons_zero, List.set_cons_succ, List.length_cons, List.length_nil, Nat.reduceAdd, Nat.reduceLT, Nat.reduceLeDiff, Nat.zero_lt_succ, D.bl.injEq, D.int.injEq, D.str.injEq, exists_eq_left', exists_eq_left, true_and, and_true, forall_const, Bool.true_and, Bool.and_true, Bool.false_eq_true, Bool.not_true, Bool.not_false, if_true, true_implies, false_implies, eq_self, Bool.true_eq_false, reduceCtorEq, decide_true, decide_eq_true_eq, decide_eq_false_iff_not, Decidable.not_not, beq_self_eq_true, not_true_eq_false, not_false_eq_true, Bool.not_eq_true', Bool.not_eq_false', Option.some.injEq, wipeD, List.map_cons, List.map_nil, List.foldr_cons, List.foldr_nil, tgName, tgTup, tgNames, Option.bind_some, and_self, cut_from _ (show (0 : Int) ≤ 1 by decide)])
  refine ⟨rfl, (turns w).drop 1, ?_, ?_, fun z hz => ?_, ?_⟩
  · rw [List.map_drop]; rfl
  · unfold turns; (first | assumption | omega | (simp only [LN, big, rot_len, List.length_append, List.length_drop, List.length_take, List.length_map, List.length_cons, List.length_nil, List.length_range, Bool.and_eq_true, decide_eq_true_eq] at *; omega))
  · exact ⟨fun _ => trivial, fun _ => trivial⟩
  · refine ⟨by decide, ?_⟩
    rw [eqD_l0 (plns_str 7 _)]
    (try simp only [w_var, w_bor, w_kint, w_kstr, w_kbl, w_knon, w_gint, w_gstr, w_bin, w_binN, w_cmp, w_ix, w_chn, chnW_b, w_neg, w_notv, w_one, w_andv, w_orv, w_ite, w_tup, w_lst, w_cal, w_listN, w_tupC, w_intC, w_isi, w_isi2', w_sl, w_slN, w_pn, w_ps, w_nil, w_cons, w_tval, w_tcmp, w_tchn, w_tnot, w_tw, w_tone, w_tyes, w_tand, w_tor, w_seq, w_r1, w_r2, w_r3, w_fld, w_prop, w_enu, w_lrg, w_ltx, w_srt, Fl.f, w_snil, w_scons, w_ret, w_retN, w_asg, w_own, w_expr, w_if, w_for, w_brk, w_cnt, w_pass, w_raise, w_app2, ownL_o, w_par, w_unp, w_lcAf, w_lcAt, wp_of_some, wp_of_ite, wp_ok, wp_bad, wp_exc, wp_nx, wp_rt, wp_bk, wp_ct, wp_xc, wp_no, getV, borV, Bo.f, BoN.f, Co.f, Bi.f, Tg.t, addD_i, addD_s, addD_t, catD_l, subD_i, mulD_i, mulD_s, mulD_t, repD_l, fdivD_i, modD_i, eqD_s, eqD_i, eqD_b, neD_s, neD_i, neD_b, ltD_i, gtD_i, leD_i, geD_i, isND_n, notND_n, nonD_n, nonD_s, nonD_i, nonD_b, nonD_l, nonD_t, inD_s, ninD_s, ixD_l, ixD_t, lenD_l, lenD_t, lenD_s, max2_i, min2_i, listL_l, listL_t, tupL_l, tupL_t, int1_i, items_l, items_t, items_s, rng1_i, rng2_i, slD_s, slD_t, slN_l, isi_ss, isi_si, isi_sb, isi_sl, isi_st, isi_sn, isi_is, isi_ii, isi_ib, isi_il, isi_it, isi_in, isi_bs, isi_bi, isi_bb, isi_bl, isi_bt, isi_bn, isi_ls, isi_li, isi_lb, isi_ll, isi_lt, isi_ln, isi_ts, isi_ti, isi_tb, isi_tl, isi_tt, isi_tn, tl_s, tl_i, tl_b, tl_l, tl_t, tl_n, List.getElem?_cons_zero, List.getElem?_cons_succ, List.set_cons_zero, List.set_cons_succ, List.length_cons, List.length_nil, Nat.reduceAdd, Nat.reduceLT, Nat.reduceLeDiff, Nat.zero_lt_succ, D.bl.injEq, D.int.injEq, D.str.injEq, exists_eq_left', exists_eq_left, true_and, and_true, forall_const, Bool.true_and, Bool.and_true, Bool.false_eq_true, Bool.not_true, Bool.not_false, if_true, true_implies, false_implies, eq_self, Bool.true_eq_false, reduceCtorEq, decide_true, decide_eq_true_eq, decide_eq_false_iff_not, Decidable.not_not, beq_self_eq_true, not_true_eq_false, not_false_eq_true, Bool.not_eq_true', Bool.not_eq_false', Option.some.injEq, wipeD, List.map_cons, List.map_nil, List.foldr_cons, List.foldr_nil, tgName, tgTup, tgNames, Option.bind_some, and_self])
    have key : (List.map (fun z => D.str z) (List.filter (fun z => decide (z = w)) (List.drop 1 (turns w)))).isEmpty = (List.range (w.length - 1)).all fun i => decide (rot w (i + 1) ≠ w) := ?_
    · rw [key]; exact ⟨_, rfl⟩
    rw [turns_cons (by intro e; rw [e] at h0; simp at h0)]
    rw [Bool.eq_iff_iff]
    simp only [List.isEmpty_iff, List.map_eq_nil_iff, List.drop_succ_cons, List.drop_zero, List.filter_eq_nil_iff, decide_eq_true_eq, List.all_eq_true, List.mem_map, forall_exists_index, and_imp, forall_apply_eq_imp_iff₂, ne_eq]
mutual
/-- plain data of some depth, no list too long -/
def okD : Nat → D → Bool
  | _, .non => true
  | _, .bl _ => true
  | _, .int _ => true
  | _, .str _ => true
  | n + 1, .lst ds => decide (ds.length ≤ 100000) && okDs n ds
  | n + 1, .tup ds => decide (ds.length ≤ 100000) && okDs n ds
  | _, _ => false
def okDs : Nat → List D → Bool
  | _, [] => true
  | n, d :: r => okD n d && okDs n r
end
theorem okDs_all (n : Nat) : ∀ ds : List D, okDs n ds = ds.all (okD n)
  | [] => rfl
  | d :: r => by rw [okDs, okDs_all n r]; rfl
theorem okD_strs (n : Nat) (ws : List Wd) : okDs n (ws.map .str) = true := by
  rw [okDs_all, List.all_map, List.all_eq_true]
  intro w _
  cases n <;> rfl
theorem okD_w {n : Nat} {ws : List Wd} (h : ws.length ≤ 100000) : okD (n + 1) (.lst (ws.map .str)) = true ∧ okD (n + 1) (.tup (ws.map .str)) = true := by
  simp [okD, okD_strs, h]
theorem neD_bb (a : Bool) : neD (.bl a) (.bl a) = some (.bl false) := by rw [neD_b]; simp
theorem atI_i {xs : List D} {i : Nat} {z : D} (h : i < xs.length) : atI xs (0 + (i : Int)) = some (xs.getD i z) := by
  rw [show (0 + (i : Int)) = ((i : Nat) : Int) by omega]
  refine atI_nat ?_
  rw [List.getD_eq_getElem?_getD, List.getElem?_eq_getElem h]; rfl
theorem eqD_nn : eqD .non .non = some (.bl true) := rfl
theorem eqD_nil : eqD (.lst []) (.lst []) = some (.bl true) := rfl
theorem v_alike : ∀ (n : Nat) (d : D), okD n d = true → sem__law_alike (n + 1) [d, d] = .ok (.bl true)
  | n, .non, _ => by
    refine semP_wp rfl ?_
    unfold il__law_alike
    show Rst.wp (evB _ _ ⟨[some (.im .non), some (.im .non), none], ⟨0, [], 0⟩⟩) _ _
    (try simp only [w_var, w_bor, w_kint, w_kstr, w_kbl, w_knon, w_gint, w_gstr, w_bin, w_binN, w_cmp, w_ix, w_chn, chnW_b, w_neg, w_notv, w_one, w_andv, w_orv, w_ite, w_tup, w_lst, w_cal, w_listN, w_tupC, w_intC, w_isi, w_isi2', w_sl, w_slN, w_pn, w_ps, w_nil, w_cons, w_tval, w_tcmp, w_tchn, w_tnot, w_tw, w_tone, w_tyes, w_tand, w_tor, w_seq, w_r1, w_r2, w_r3, w_fld, w_prop, w_enu, w_lrg, w_ltx, w_srt, Fl.f, w_snil, w_scons, w_ret, w_retN, w_asg, w_own, w_expr, w_if, w_for, w_brk, w_cnt, w_pass, w_raise, w_app2, ownL_o, w_par, w_unp, w_lcAf, w_lcAt, wp_of_some, wp_of_ite, wp_ok, wp_bad, wp_exc, wp_nx, wp_rt, wp_bk, wp_ct, wp_xc, wp_no, getV, borV, Bo.f, BoN.f, Co.f, Bi.f, Tg.t, addD_i, addD_s, addD_t, catD_l, subD_i, mulD_i, mulD_s, mulD_t, repD_l, fdivD_i, modD_i, eqD_s, eqD_i, eqD_b, neD_s, neD_i, neD_b, ltD_i, gtD_i, leD_i, geD_i, isND_n, notND_n, nonD_n, nonD_s, nonD_i, nonD_b, nonD_l, nonD_t, inD_s, ninD_s, ixD_l, ixD_t, lenD_l, lenD_t, lenD_s, max2_i, min2_i, listL_l, listL_t, tupL_l, tupL_t, int1_i, items_l, items_t, items_s, rng1_i, rng2_i, slD_s, slD_t, slN_l, isi_ss, isi_si, isi_sb, isi_sl, isi_st, isi_sn, isi_is, isi_ii, isi_ib, isi_il, isi_it, isi_in, isi_bs, isi_bi, isi_bb, isi_bl, isi_bt, isi_bn, isi_ls, isi_li, isi_lb, isi_ll, isi_lt, isi_ln, isi_ts, isi_ti, isi_tb, isi_tl, isi_tt, isi_tn, tl_s, tl_i, tl_b, tl_l, tl_t, tl_n, List.getElem?_cons_zero, List.getElem?_cons_succ, List.set_cons_zero, List.set_cons_succ, List.length_cons, List.length_nil, Nat.reduceAdd, Nat.reduceLT, Nat.reduceLeDiff, Nat.zero_lt_succ, D.bl.injEq, D.int.injEq, D.str.injEq, exists_eq_left', exists_eq_left, true_and, and_true, forall_const, Bool.true_and, Bool.and_true, Bool.false_eq_true, Bool.not_true, Bool.not_false, if_true, true_implies, false_implies, eq_self, Bool.true_eq_false, reduceCtorEq, decide_true, decide_eq_true_eq, decide_eq_false_iff_not, Decidable.not_not, beq_self_eq_true, not_true_eq_false, not_false_eq_true, Bool.not_eq_true', Bool.not_eq_false', Option.some.injEq, wipeD, List.map_cons, List.map_nil, List.foldr_cons, List.foldr_nil, tgName, tgTup, tgNames, Option.bind_some, and_self, eqD_nn])
    exact ⟨_, rfl⟩
  | n, .bl b, _ => by
    refine semP_wp rfl ?_
    unfold il__law_alike
    show Rst.wp (evB _ _ ⟨[some (.im (.bl b)), some (.im (.bl b)), none], ⟨0, [], 0⟩⟩) _ _
    (try simp only [w_var, w_bor, w_kint, w_kstr, w_kbl, w_knon, w_gint, w_gstr, w_bin, w_binN, w_cmp, w_ix, w_chn, chnW_b, w_neg, w_notv, w_one, w_andv, w_orv, w_ite, w_tup, w_lst, w_cal, w_listN, w_tupC, w_intC, w_isi, w_isi2', w_sl, w_slN, w_pn, w_ps, w_nil, w_cons, w_tval, w_tcmp, w_tchn, w_tnot, w_tw, w_tone, w_tyes, w_tand, w_tor, w_seq, w_r1, w_r2, w_r3, w_fld, w_prop, w_enu, w_lrg, w_ltx, w_srt, Fl.f, w_snil, w_scons, w_ret, w_retN, w_asg, w_own, w_expr, w_if, w_for, w_brk, w_cnt, w_pass, w_raise, w_app2, ownL_o, w_par, w_unp, w_lcAf, w_lcAt, wp_of_some, wp_of_ite, wp_ok, wp_bad, wp_exc, wp_nx, wp_rt, wp_bk, wp_ct, wp_xc, wp_no, getV, borV, Bo.f, BoN.f, Co.f, Bi.f, Tg.t, addD_i, addD_s, addD_t, catD_l, subD_i, mulD_i, mulD_s, mulD_t, repD_l, fdivD_i, modD_i, eqD_s, eqD_i, eqD_b, neD_s, neD_i, neD_b, ltD_i, gtD_i, leD_i, geD_i, isND_n, notND_n, nonD_n, nonD_s, nonD_i, nonD_b, nonD_l, nonD_t, inD_s, ninD_s, ixD_l, ixD_t, lenD_l, lenD_t, lenD_s, max2_i, min2_i, listL_l, listL_t, tupL_l, tupL_t, int1_i, items_l, items_t, items_s, rng1_i, rng2_i, slD_s, slD_t, slN_l, isi_ss, isi_si, isi_sb, isi_sl, isi_st, isi_sn, isi_is, isi_ii, isi_ib, isi_il, isi_it, isi_in, isi_bs, isi_bi, isi_bb, isi_bl, isi_bt, isi_bn, isi_ls, isi_li, isi_lb, isi_ll, isi_lt, isi_ln, isi_ts, isi_ti, isi_tb, isi_tl, isi_tt, isi_tn, tl_s, tl_i, tl_b, tl_l, tl_t, tl_n, List.getElem?_cons_zero, List.getElem?_cons_succ, List.set_cons_zero, List.set_cons_succ, List.length_cons, List.length_nil, Nat.reduceAdd, Nat.reduceLT, Nat.reduceLeDiff, Nat.zero_lt_succ, D.bl.injEq, D.int.injEq, D.str.injEq, exists_eq_left', exists_eq_left, true_and, and_true, forall_const, Bool.true_and, Bool.and_true, Bool.false_eq_true, Bool.not_true, Bool.not_false, if_true, true_implies, false_implies, eq_self, Bool.true_eq_false, reduceCtorEq, decide_true, decide_eq_true_eq, decide_eq_false_iff_not, Decidable.not_not, beq_self_eq_true, not_true_eq_false, not_false_eq_true, Bool.not_eq_true', Bool.not_eq_false', Option.some.injEq, wipeD, List.map_cons, List.map_nil, List.foldr_cons, List.foldr_nil, tgName, tgTup, tgNames, Option.bind_some, and_self])
    exact ⟨_, rfl⟩
  | n, .int b, _ => by
    refine semP_wp rfl ?_
    unfold il__law_alike
    show Rst.wp (evB _ _ ⟨[some (.im (.int b)), some (.im (.int b)), none], ⟨0, [], 0⟩⟩) _ _
    (try simp only [w_var, w_bor, w_kint, w_kstr, w_kbl, w_knon, w_gint, w_gstr, w_bin, w_binN, w_cmp, w_ix, w_chn, chnW_b, w_neg, w_notv, w_one, w_andv, w_orv, w_ite, w_tup, w_lst, w_cal, w_listN, w_tupC, w_intC, w_isi, w_isi2', w_sl, w_slN, w_pn, w_ps, w_nil, w_cons, w_tval, w_tcmp, w_tchn, w_tnot, w_tw, w_tone, w_tyes, w_tand, w_tor, w_seq, w_r1, w_r2, w_r3, w_fld, w_prop, w_enu, w_lrg, w_ltx, w_srt, Fl.f, w_snil, w_scons, w_ret, w_retN, w_asg, w_own, w_expr, w_if, w_for, w_brk, w_cnt, w_pass, w_raise, w_app2, ownL_o, w_par, w_unp, w_lcAf, w_lcAt, wp_of_some, wp_of_ite, wp_ok, wp_bad, wp_exc, wp_nx, wp_rt, wp_bk, wp_ct, wp_xc, wp_no, getV, borV, Bo.f, BoN.f, Co.f, Bi.f, Tg.t, addD_i, addD_s, addD_t, catD_l, subD_i, mulD_i, mulD_s, mulD_t, repD_l, fdivD_i, modD_i, eqD_s, eqD_i, eqD_b, neD_s, neD_i, neD_b, ltD_i, gtD_i, leD_i, geD_i, isND_n, notND_n, nonD_n, nonD_s, nonD_i, nonD_b, nonD_l, nonD_t, inD_s, ninD_s, ixD_l, ixD_t, lenD_l, lenD_t, lenD_s, max2_i, min2_i, listL_l, listL_t, tupL_l, tupL_t, int1_i, items_l, items_t, items_s, rng1_i, rng2_i, slD_s, slD_t, slN_l, isi_ss, isi_si, isi_sb, isi_sl, isi_st, isi_sn, isi_is, isi_ii, isi_ib, isi_il, isi_it, isi_in, isi_bs, isi_bi, isi_bb, isi_bl, isi_bt, isi_bn, isi_ls, isi_li, isi_lb, isi_ll, isi_lt, isi_ln, isi_ts, isi_ti, isi_tb, isi_tl, isi_tt, isi_tn, tl_s, tl_i, tl_b, tl_l, tl_t, tl_n, List.getElem?_cons_zero, List.getElem?_cons_succ, List.set_cons_zero, List.set_cons_succ, List.length_cons, List.length_nil, Nat.reduceAdd, Nat.reduceLT, Nat.reduceLeDiff, Nat.zero_lt_succ, D.bl.injEq, D.int.injEq, D.str.injEq, exists_eq_left', exists_eq_left, true_and, and_true, forall_const, Bool.true_and, Bool.and_true, Bool.false_eq_true, Bool.not_true, Bool.not_false, if_true, true_implies, false_implies, eq_self, Bool.true_eq_false, reduceCtorEq, decide_true, decide_eq_true_eq, decide_eq_false_iff_not, Decidable.not_not, beq_self_eq_true, not_true_eq_false, not_false_eq_true, Bool.not_eq_true', Bool.not_eq_false', Option.some.injEq, wipeD, List.map_cons, List.map_nil, List.foldr_cons, List.foldr_nil, tgName, tgTup, tgNames, Option.bind_some, and_self])
    exact ⟨_, rfl⟩
  | n, .str b, _ => by
    refine semP_wp rfl ?_
    unfold il__law_alike
    show Rst.wp (evB _ _ ⟨[some (.im (.str b)), some (.im (.str b)), none], ⟨0, [], 0⟩⟩) _ _
    (try simp only [w_var, w_bor, w_kint, w_kstr, w_kbl, w_knon, w_gint, w_gstr, w_bin, w_binN, w_cmp, w_ix, w_chn, chnW_b, w_neg, w_notv, w_one, w_andv, w_orv, w_ite, w_tup, w_lst, w_cal, w_listN, w_tupC, w_intC, w_isi, w_isi2', w_sl, w_slN, w_pn, w_ps, w_nil, w_cons, w_tval, w_tcmp, w_tchn, w_tnot, w_tw, w_tone, w_tyes, w_tand, w_tor, w_seq, w_r1, w_r2, w_r3, w_fld, w_prop, w_enu, w_lrg, w_ltx, w_srt, Fl.f, w_snil, w_scons, w_ret, w_retN, w_asg, w_own, w_expr, w_if, w_for, w_brk, w_cnt, w_pass, w_raise, w_app2, ownL_o, w_par, w_unp, w_lcAf, w_lcAt, wp_of_some, wp_of_ite, wp_ok, wp_bad, wp_exc, wp_nx, wp_rt, wp_bk, wp_ct, wp_xc, wp_no, getV, borV, Bo.f, BoN.f, Co.f, Bi.f, Tg.t, addD_i, addD_s, addD_t, catD_l, subD_i, mulD_i, mulD_s, mulD_t, repD_l, fdivD_i, modD_i, eqD_s, eqD_i, eqD_b, neD_s, neD_i, neD_b, ltD_i, gtD_i, leD_i, geD_i, isND_n, notND_n, nonD_n, nonD_s, nonD_i, nonD_b, nonD_l, nonD_t, inD_s, ninD_s, ixD_l, ixD_t, lenD_l, lenD_t, lenD_s, max2_i, min2_i, listL_l, listL_t, tupL_l, tupL_t, int1_i, items_l, items_t, items_s, rng1_i, rng2_i, slD_s, slD_t, slN_l, isi_ss, isi_si, isi_sb, isi_sl, isi_st, isi_sn, isi_is, isi_ii, isi_ib, isi_il, isi_it, isi_in, isi_bs, isi_bi, isi_bb, isi_bl, isi_bt, isi_bn, isi_ls, isi_li, isi_lb, isi_ll, isi_lt, isi_ln, isi_ts, isi_ti, isi_tb, isi_tl, isi_tt, isi_tn, tl_s, tl_i, tl_b, tl_l, tl_t, tl_n, List.getElem?_cons_zero, List.getElem?_cons_succ, List.set_cons_zero, List.set_cons_succ, List.length_cons, List.length_nil, Nat.reduceAdd, Nat.reduceLT, Nat.reduceLeDiff, Nat.zero_lt_succ, D.bl.injEq, D.int.injEq, D.str.injEq, exists_eq_left', exists_eq_left, true_and, and_true, forall_const, Bool.true_and, Bool.and_true, Bool.false_eq_true, Bool.not_true, Bool.not_false, if_true, true_implies, false_implies, eq_self, Bool.true_eq_false, reduceCtorEq, decide_true, decide_eq_true_eq, decide_eq_false_iff_not, Decidable.not_not, beq_self_eq_true, not_true_eq_false, not_false_eq_true, Bool.not_eq_true', Bool.not_eq_false', Option.some.injEq, wipeD, List.map_cons, List.map_nil, List.foldr_cons, List.foldr_nil, tgName, tgTup, tgNames, Option.bind_some, and_self])
    exact ⟨_, rfl⟩
  | 0, .lst _, h => by cases h
  | 0, .tup _, h => by cases h
  | 0, .dct _ _, h => by cases h
  | 0, .cod _ _ _, h => by cases h
  | n + 1, .dct _ _, h => by cases h
  | n + 1, .cod _ _ _, h => by cases h
  | n + 1, .lst ds, h => by
    have h : (decide (ds.length ≤ 100000) && okDs n ds) = true := h
    rw [Bool.and_eq_true, decide_eq_true_eq, okDs_all, List.all_eq_true] at h
    refine semP_wp rfl ?_
    unfold il__law_alike
    show Rst.wp (evB _ _ ⟨[some (.im (.lst ds)), some (.im (.lst ds)), none], ⟨0, [], 0⟩⟩) _ _
    (try simp only [w_var, w_bor, w_kint, w_kstr, w_kbl, w_knon, w_gint, w_gstr, w_bin, w_binN, w_cmp, w_ix, w_chn, chnW_b, w_neg, w_notv, w_one, w_andv, w_orv, w_ite, w_tup, w_lst, w_cal, w_listN, w_tupC, w_intC, w_isi, w_isi2', w_sl, w_slN, w_pn, w_ps, w_nil, w_cons, w_tval, w_tcmp, w_tchn, w_tnot, w_tw, w_tone, w_tyes, w_tand, w_tor, w_seq, w_r1, w_r2, w_r3, w_fld, w_prop, w_enu, w_lrg, w_ltx, w_srt, Fl.f, w_snil, w_scons, w_ret, w_retN, w_asg, w_own, w_expr, w_if, w_for, w_brk, w_cnt, w_pass, w_raise, w_app2, ownL_o, w_par, w_unp, w_lcAf, w_lcAt, wp_of_some, wp_of_ite, wp_ok, wp_bad, wp_exc, wp_nx, wp_rt, wp_bk, wp_ct, wp_xc, wp_no, getV, borV, Bo.f, BoN.f, Co.f, Bi.f, Tg.t, addD_i, addD_s, addD_t, catD_l, subD_i, mulD_i, mulD_s, mulD_t, repD_l, fdivD_i, modD_i, eqD_s, eqD_i, eqD_b, neD_s, neD_i, neD_b, ltD_i, gtD_i, leD_i, geD_i, isND_n, notND_n, nonD_n, nonD_s, nonD_i, nonD_b, nonD_l, nonD_t, inD_s, ninD_s, ixD_l, ixD_t, lenD_l, lenD_t, lenD_s, max2_i, min2_i, listL_l, listL_t, tupL_l, tupL_t, int1_i, items_l, items_t, items_s, rng1_i, rng2_i, slD_s, slD_t, slN_l, isi_ss, isi_si, isi_sb, isi_sl, isi_st, isi_sn, isi_is, isi_ii, isi_ib, isi_il, isi_it, isi_in, isi_bs, isi_bi, isi_bb, isi_bl, isi_bt, isi_bn, isi_ls, isi_li, isi_lb, isi_ll, isi_lt, isi_ln, isi_ts, isi_ti, isi_tb, isi_tl, isi_tt, isi_tn, tl_s, tl_i, tl_b, tl_l, tl_t, tl_n, List.getElem?_cons_zero, List.getElem?_cons_succ, List.set_cons_zero, List.set_cons_succ, List.length_cons, List.length_nil, Nat.reduceAdd, Nat.reduceLT, Nat.reduceLeDiff, Nat.zero_lt_succ, D.bl.injEq, D.int.injEq, D.str.injEq, exists_eq_left', exists_eq_left, true_and, and_true, forall_const, Bool.true_and, Bool.and_true, Bool.false_eq_true, Bool.not_true, Bool.not_false, if_true, true_implies, false_implies, eq_self, Bool.true_eq_false, reduceCtorEq, decide_true, decide_eq_true_eq, decide_eq_false_iff_not, Decidable.not_not, beq_self_eq_true, not_true_eq_false, not_false_eq_true, Bool.not_eq_true', Bool.not_eq_false', Option.some.injEq, wipeD, List.map_cons, List.map_nil, List.foldr_cons, List.foldr_nil, tgName, tgTup, tgNames, Option.bind_some, and_self, neD_bb])
    refine ⟨by (first | omega | with_reducible assumption | (refine LN_le ?_; (try simp only [rot_len, List.length_append, List.length_drop, List.length_take, List.length_map, List.length_cons, List.length_nil, List.length_range, rangeD_len]); omega) | (refine LN_lt ?_; (try simp only [rot_len, List.length_append, List.length_drop, List.length_take, List.length_map, List.length_cons, List.length_nil, List.length_range, rangeD_len]); omega) | (refine big_le ?_ ?_ <;> (try simp only [rot_len, List.length_append, List.length_drop, List.length_take, List.length_map, List.length_cons, List.length_nil, List.length_range, rangeD_len]) <;> omega) | (refine big2 (big_le ?_ ?_) (big_le ?_ ?_) <;> (try simp only [rot_len, List.length_append, List.length_drop, List.length_take, List.length_map, List.length_cons, List.length_nil, List.length_range, rangeD_len]) <;> omega)), by (first | omega | with_reducible assumption | (refine LN_le ?_; (try simp only [rot_len, List.length_append, List.length_drop, List.length_take, List.length_map, List.length_cons, List.length_nil, List.length_range, rangeD_len]); omega) | (refine LN_lt ?_; (try simp only [rot_len, List.length_append, List.length_drop, List.length_take, List.length_map, List.length_cons, List.length_nil, List.length_range, rangeD_len]); omega) | (refine big_le ?_ ?_ <;> (try simp only [rot_len, List.length_append, List.length_drop, List.length_take, List.length_map, List.length_cons, List.length_nil, List.length_range, rangeD_len]) <;> omega) | (refine big2 (big_le ?_ ?_) (big_le ?_ ?_) <;> (try simp only [rot_len, List.length_append, List.length_drop, List.length_take, List.length_map, List.length_cons, List.length_nil, List.length_range, rangeD_len]) <;> omega)), ?_⟩
    refine wp_lcf (fun i : Nat => .int (0 + (i : Int))) (fun _ => false) (fun _ => .non) ?_
    (try simp only [w_var, w_bor, w_kint, w_kstr, w_kbl, w_knon, w_gint, w_gstr, w_bin, w_binN, w_cmp, w_ix, w_chn, chnW_b, w_neg, w_notv, w_one, w_andv, w_orv, w_ite, w_tup, w_lst, w_cal, w_listN, w_tupC, w_intC, w_isi, w_isi2', w_sl, w_slN, w_pn, w_ps, w_nil, w_cons, w_tval, w_tcmp, w_tchn, w_tnot, w_tw, w_tone, w_tyes, w_tand, w_tor, w_seq, w_r1, w_r2, w_r3, w_fld, w_prop, w_enu, w_lrg, w_ltx, w_srt, Fl.f, w_snil, w_ret, w_retN, w_asg, w_own, w_expr, w_if, w_for, w_brk, w_cnt, w_pass, w_raise, w_app2, ownL_o, w_par, w_unp, w_lcAf, w_lcAt, wp_of_some, wp_of_ite, wp_ok, wp_bad, wp_exc, wp_nx, wp_rt, wp_bk, wp_ct, wp_xc, wp_no, getV, borV, Bo.f, BoN.f, Co.f, Bi.f, Tg.t, addD_i, addD_s, addD_t, catD_l, subD_i, mulD_i, mulD_s, mulD_t, repD_l, fdivD_i, modD_i, eqD_s, eqD_i, eqD_b, neD_s, neD_i, neD_b, ltD_i, gtD_i, leD_i, geD_i, isND_n, notND_n, nonD_n, nonD_s, nonD_i, nonD_b, nonD_l, nonD_t, inD_s, ninD_s, ixD_l, ixD_t, lenD_l, lenD_t, lenD_s, max2_i, min2_i, listL_l, listL_t, tupL_l, tupL_t, int1_i, items_l, items_t, items_s, rng1_i, rng2_i, slD_s, slD_t, slN_l, isi_ss, isi_si, isi_sb, isi_sl, isi_st, isi_sn, isi_is, isi_ii, isi_ib, isi_il, isi_it, isi_in, isi_bs, isi_bi, isi_bb, isi_bl, isi_bt, isi_bn, isi_ls, isi_li, isi_lb, isi_ll, isi_lt, isi_ln, isi_ts, isi_ti, isi_tb, isi_tl, isi_tt, isi_tn, tl_s, tl_i, tl_b, tl_l, tl_t, tl_n, List.getElem?_cons_zero, List.getElem?_cons_succ, List.set_cons_zero, List.set_cons_succ, List.length_cons, List.length_nil, Nat.reduceAdd, Nat.reduceLT, Nat.reduceLeDiff, Nat.zero_lt_succ, D.bl.injEq, D.int.injEq, D.str.injEq, exists_eq_left', exists_eq_left, true_and, and_true, forall_const, Bool.true_and, Bool.and_true, Bool.false_eq_true, Bool.not_true, Bool.not_false, if_true, true_implies, false_implies, eq_self, Bool.true_eq_false, reduceCtorEq, decide_true, decide_eq_true_eq, decide_eq_false_iff_not, Decidable.not_not, beq_self_eq_true, not_true_eq_false, not_false_eq_true, Bool.not_eq_true', Bool.not_eq_false', Option.some.injEq, wipeD, List.map_cons, List.map_nil, List.foldr_cons, List.foldr_nil, tgName, tgTup, tgNames, Option.bind_some, and_self])
    refine ⟨by (first | omega | with_reducible assumption | (refine LN_le ?_; (try simp only [rot_len, List.length_append, List.length_drop, List.length_take, List.length_map, List.length_cons, List.length_nil, List.length_range, rangeD_len]); omega) | (refine LN_lt ?_; (try simp only [rot_len, List.length_append, List.length_drop, List.length_take, List.length_map, List.length_cons, List.length_nil, List.length_range, rangeD_len]); omega) | (refine big_le ?_ ?_ <;> (try simp only [rot_len, List.length_append, List.length_drop, List.length_take, List.length_map, List.length_cons, List.length_nil, List.length_range, rangeD_len]) <;> omega) | (refine big2 (big_le ?_ ?_) (big_le ?_ ?_) <;> (try simp only [rot_len, List.length_append, List.length_drop, List.length_take, List.length_map, List.length_cons, List.length_nil, List.length_range, rangeD_len]) <;> omega)), by (first | omega | with_reducible assumption | (refine LN_le ?_; (try simp only [rot_len, List.length_append, List.length_drop, List.length_take, List.length_map, List.length_cons, List.length_nil, List.length_range, rangeD_len]); omega) | (refine LN_lt ?_; (try simp only [rot_len, List.length_append, List.length_drop, List.length_take, List.length_map, List.length_cons, List.length_nil, List.length_range, rangeD_len]); omega) | (refine big_le ?_ ?_ <;> (try simp only [rot_len, List.length_append, List.length_drop, List.length_take, List.length_map, List.length_cons, List.length_nil, List.length_range, rangeD_len]) <;> omega) | (refine big2 (big_le ?_ ?_) (big_le ?_ ?_) <;> (try simp only [rot_len, List.length_append, List.length_drop, List.length_take, List.length_map, List.length_cons, List.length_nil, List.length_range, rangeD_len]) <;> omega)), rfl, List.range ds.length, rfl, by (first | omega | with_reducible assumption | (refine LN_le ?_; (try simp only [rot_len, List.length_append, List.length_drop, List.length_take, List.length_map, List.length_cons, List.length_nil, List.length_range, rangeD_len]); omega) | (refine LN_lt ?_; (try simp only [rot_len, List.length_append, List.length_drop, List.length_take, List.length_map, List.length_cons, List.length_nil, List.length_range, rangeD_len]); omega) | (refine big_le ?_ ?_ <;> (try simp only [rot_len, List.length_append, List.length_drop, List.length_take, List.length_map, List.length_cons, List.length_nil, List.length_range, rangeD_len]) <;> omega) | (refine big2 (big_le ?_ ?_) (big_le ?_ ?_) <;> (try simp only [rot_len, List.length_append, List.length_drop, List.length_take, List.length_map, List.length_cons, List.length_nil, List.length_range, rangeD_len]) <;> omega)), fun i hi => ?_, ?_⟩
    · have hi : i < ds.length := by simpa using hi
      (try simp only [w_var, w_bor, w_kint, w_kstr, w_kbl, w_knon, w_gint, w_gstr, w_bin, w_binN, w_cmp, w_ix, w_chn, chnW_b, w_neg, w_notv, w_one, w_andv, w_orv, w_ite, w_tup, w_lst, w_cal, w_listN, w_tupC, w_intC, w_isi, w_isi2', w_sl, w_slN, w_pn, w_ps, w_nil, w_cons, w_tval, w_tcmp, w_tchn, w_tnot, w_tw, w_tone, w_tyes, w_tand, w_tor, w_seq, w_r1, w_r2, w_r3, w_fld, w_prop, w_enu, w_lrg, w_ltx, w_srt, Fl.f, w_snil, w_ret, w_retN, w_asg, w_own, w_expr, w_if, w_for, w_brk, w_cnt, w_pass, w_raise, w_app2, ownL_o, w_par, w_unp, w_lcAf, w_lcAt, wp_of_some, wp_of_ite, wp_ok, wp_bad, wp_exc, wp_nx, wp_rt, wp_bk, wp_ct, wp_xc, wp_no, getV, borV, Bo.f, BoN.f, Co.f, Bi.f, Tg.t, addD_i, addD_s, addD_t, catD_l, subD_i, mulD_i, mulD_s, mulD_t, repD_l, fdivD_i, modD_i, eqD_s, eqD_i, eqD_b, neD_s, neD_i, neD_b, ltD_i, gtD_i, leD_i, geD_i, isND_n, notND_n, nonD_n, nonD_s, nonD_i, nonD_b, nonD_l, nonD_t, inD_s, ninD_s, ixD_l, ixD_t, lenD_l, lenD_t, lenD_s, max2_i, min2_i, listL_l, listL_t, tupL_l, tupL_t, int1_i, items_l, items_t, items_s, rng1_i, rng2_i, slD_s, slD_t, slN_l, isi_ss, isi_si, isi_sb, isi_sl, isi_st, isi_sn, isi_is, isi_ii, isi_ib, isi_il, isi_it, isi_in, isi_bs, isi_bi, isi_bb, isi_bl, isi_bt, isi_bn, isi_ls, isi_li, isi_lb, isi_ll, isi_lt, isi_ln, isi_ts, isi_ti, isi_tb, isi_tl, isi_tt, isi_tn, tl_s, tl_i, tl_b, tl_l, tl_t, tl_n, List.getElem?_cons_zero, List.getElem?_cons_succ, List.set_cons_zero, List.set_cons_succ, List.length_cons, List.length_nil, Nat.reduceAdd, Nat.reduceLT, Nat.reduceLeDiff, Nat.zero_lt_succ, D.bl.injEq, D.int.injEq, D.str.injEq, exists_eq_left', exists_eq_left, true_and, and_true, forall_const, Bool.true_and, Bool.and_true, Bool.false_eq_true, Bool.not_true, Bool.not_false, if_true, true_implies, false_implies, eq_self, Bool.true_eq_false, reduceCtorEq, decide_true, decide_eq_true_eq, decide_eq_false_iff_not, Decidable.not_not, beq_self_eq_true, not_true_eq_false, not_false_eq_true, Bool.not_eq_true', Bool.not_eq_false', Option.some.injEq, wipeD, List.map_cons, List.map_nil, List.foldr_cons, List.foldr_nil, tgName, tgTup, tgNames, Option.bind_some, and_self, atI_i (z := .non) hi])
      refine wp_call rfl ?_
      (try simp only [w_var, w_bor, w_kint, w_kstr, w_kbl, w_knon, w_gint, w_gstr, w_bin, w_binN, w_cmp, w_ix, w_chn, chnW_b, w_neg, w_notv, w_one, w_andv, w_orv, w_ite, w_tup, w_lst, w_cal, w_listN, w_tupC, w_intC, w_isi, w_isi2', w_sl, w_slN, w_pn, w_ps, w_nil, w_cons, w_tval, w_tcmp, w_tchn, w_tnot, w_tw, w_tone, w_tyes, w_tand, w_tor, w_seq, w_r1, w_r2, w_r3, w_fld, w_prop, w_enu, w_lrg, w_ltx, w_srt, Fl.f, w_snil, w_ret, w_retN, w_asg, w_own, w_expr, w_if, w_for, w_brk, w_cnt, w_pass, w_raise, w_app2, ownL_o, w_par, w_unp, w_lcAf, w_lcAt, wp_of_some, wp_of_ite, wp_ok, wp_bad, wp_exc, wp_nx, wp_rt, wp_bk, wp_ct, wp_xc, wp_no, getV, borV, Bo.f, BoN.f, Co.f, Bi.f, Tg.t, addD_i, addD_s, addD_t, catD_l, subD_i, mulD_i, mulD_s, mulD_t, repD_l, fdivD_i, modD_i, eqD_s, eqD_i, eqD_b, neD_s, neD_i, neD_b, ltD_i, gtD_i, leD_i, geD_i, isND_n, notND_n, nonD_n, nonD_s, nonD_i, nonD_b, nonD_l, nonD_t, inD_s, ninD_s, ixD_l, ixD_t, lenD_l, lenD_t, lenD_s, max2_i, min2_i, listL_l, listL_t, tupL_l, tupL_t, int1_i, items_l, items_t, items_s, rng1_i, rng2_i, slD_s, slD_t, slN_l, isi_ss, isi_si, isi_sb, isi_sl, isi_st, isi_sn, isi_is, isi_ii, isi_ib, isi_il, isi_it, isi_in, isi_bs, isi_bi, isi_bb, isi_bl, isi_bt, isi_bn, isi_ls, isi_li, isi_lb, isi_ll, isi_lt, isi_ln, isi_ts, isi_ti, isi_tb, isi_tl, isi_tt, isi_tn, tl_s, tl_i, tl_b, tl_l, tl_t, tl_n, List.getElem?_cons_zero, List.getElem?_cons_succ, List.set_cons_zero, List.set_cons_succ, List.length_cons, List.length_nil, Nat.reduceAdd, Nat.reduceLT, Nat.reduceLeDiff, Nat.zero_lt_succ, D.bl.injEq, D.int.injEq, D.str.injEq, exists_eq_left', exists_eq_left, true_and, and_true, forall_const, Bool.true_and, Bool.and_true, Bool.false_eq_true, Bool.not_true, Bool.not_false, if_true, true_implies, false_implies, eq_self, Bool.true_eq_false, reduceCtorEq, decide_true, decide_eq_true_eq, decide_eq_false_iff_not, Decidable.not_not, beq_self_eq_true, not_true_eq_false, not_false_eq_true, Bool.not_eq_true', Bool.not_eq_false', Option.some.injEq, wipeD, List.map_cons, List.map_nil, List.foldr_cons, List.foldr_nil, tgName, tgTup, tgNames, Option.bind_some, and_self, atI_i (z := .non) hi])
      refine ⟨_, v_alike n _ (h.2 _ ?_), ?_⟩
      · rw [List.getD_eq_getElem?_getD, List.getElem?_eq_getElem hi]
        exact List.getElem_mem hi
      · (try simp only [w_var, w_bor, w_kint, w_kstr, w_kbl, w_knon, w_gint, w_gstr, w_bin, w_binN, w_cmp, w_ix, w_chn, chnW_b, w_neg, w_notv, w_one, w_andv, w_orv, w_ite, w_tup, w_lst, w_cal, w_listN, w_tupC, w_intC, w_isi, w_isi2', w_sl, w_slN, w_pn, w_ps, w_nil, w_cons, w_tval, w_tcmp, w_tchn, w_tnot, w_tw, w_tone, w_tyes, w_tand, w_tor, w_seq, w_r1, w_r2, w_r3, w_fld, w_prop, w_enu, w_lrg, w_ltx, w_srt, Fl.f, w_snil, w_ret, w_retN, w_asg, w_own, w_expr, w_if, w_for, w_brk, w_cnt, w_pass, w_raise, w_app2, ownL_o, w_par, w_unp, w_lcAf, w_lcAt, wp_of_some, wp_of_ite, wp_ok, wp_bad, wp_exc, wp_nx, wp_rt, wp_bk, wp_ct, wp_xc, wp_no, getV, borV, Bo.f, BoN.f, Co.f, Bi.f, Tg.t, addD_i, addD_s, addD_t, catD_l, subD_i, mulD_i, mulD_s, mulD_t, repD_l, fdivD_i, modD_i, eqD_s, eqD_i, eqD_b, neD_s, neD_i, neD_b, ltD_i, gtD_i, leD_i, geD_i, isND_n, notND_n, nonD_n, nonD_s, nonD_i, nonD_b, nonD_l, nonD_t, inD_s, ninD_s, ixD_l, ixD_t, lenD_l, lenD_t, lenD_s, max2_i, min2_i, listL_l, listL_t, tupL_l, tupL_t, int1_i, items_l, items_t, items_s, rng1_i, rng2_i, slD_s, slD_t, slN_l, isi_ss, isi_si, isi_sb, isi_sl, isi_st, isi_sn, isi_is, isi_ii, isi_ib, isi_il, isi_it, isi_in, isi_bs, isi_bi, isi_bb, isi_bl, isi_bt, isi_bn, isi_ls, isi_li, isi_lb, isi_ll, isi_lt, isi_ln, isi_ts, isi_ti, isi_tb, isi_tl, isi_tt, isi_tn, tl_s, tl_i, tl_b, tl_l, tl_t, tl_n, List.getElem?_cons_zero, List.getElem?_cons_succ, List.set_cons_zero, List.set_cons_succ, List.length_cons, List.length_nil, Nat.reduceAdd, Nat.reduceLT, Nat.reduceLeDiff, Nat.zero_lt_succ, D.bl.injEq, D.int.injEq, D.str.injEq, exists_eq_left', exists_eq_left, true_and, and_true, forall_const, Bool.true_and, Bool.and_true, Bool.false_eq_true, Bool.not_true, Bool.not_false, if_true, true_implies, false_implies, eq_self, Bool.true_eq_false, reduceCtorEq, decide_true, decide_eq_true_eq, decide_eq_false_iff_not, Decidable.not_not, beq_self_eq_true, not_true_eq_false, not_false_eq_true, Bool.not_eq_true', Bool.not_eq_false', Option.some.injEq, wipeD, List.map_cons, List.map_nil, List.foldr_cons, List.foldr_nil, tgName, tgTup, tgNames, Option.bind_some, and_self])
    · rw [show (List.range ds.length).filter (fun _ => false) = [] from List.filter_eq_nil_iff.mpr (fun _ _ => by simp)]
      (try simp only [w_var, w_bor, w_kint, w_kstr, w_kbl, w_knon, w_gint, w_gstr, w_bin, w_binN, w_cmp, w_ix, w_chn, chnW_b, w_neg, w_notv, w_one, w_andv, w_orv, w_ite, w_tup, w_lst, w_cal, w_listN, w_tupC, w_intC, w_isi, w_isi2', w_sl, w_slN, w_pn, w_ps, w_nil, w_cons, w_tval, w_tcmp, w_tchn, w_tnot, w_tw, w_tone, w_tyes, w_tand, w_tor, w_seq, w_r1, w_r2, w_r3, w_fld, w_prop, w_enu, w_lrg, w_ltx, w_srt, Fl.f, w_snil, w_ret, w_retN, w_asg, w_own, w_expr, w_if, w_for, w_brk, w_cnt, w_pass, w_raise, w_app2, ownL_o, w_par, w_unp, w_lcAf, w_lcAt, wp_of_some, wp_of_ite, wp_ok, wp_bad, wp_exc, wp_nx, wp_rt, wp_bk, wp_ct, wp_xc, wp_no, getV, borV, Bo.f, BoN.f, Co.f, Bi.f, Tg.t, addD_i, addD_s, addD_t, catD_l, subD_i, mulD_i, mulD_s, mulD_t, repD_l, fdivD_i, modD_i, eqD_s, eqD_i, eqD_b, neD_s, neD_i, neD_b, ltD_i, gtD_i, leD_i, geD_i, isND_n, notND_n, nonD_n, nonD_s, nonD_i, nonD_b, nonD_l, nonD_t, inD_s, ninD_s, ixD_l, ixD_t, lenD_l, lenD_t, lenD_s, max2_i, min2_i, listL_l, listL_t, tupL_l, tupL_t, int1_i, items_l, items_t, items_s, rng1_i, rng2_i, slD_s, slD_t, slN_l, isi_ss, isi_si, isi_sb, isi_sl, isi_st, isi_sn, isi_is, isi_ii, isi_ib, isi_il, isi_it, isi_in, isi_bs, isi_bi, isi_bb, isi_bl, isi_bt, isi_bn, isi_ls, isi_li, isi_lb, isi_ll, isi_lt, isi_ln, isi_ts, isi_ti, isi_tb, isi_tl, isi_tt, isi_tn, tl_s, tl_i, tl_b, tl_l, tl_t, tl_n, List.getElem?_cons_zero, List.getElem?_cons_succ, List.set_cons_zero, List.set_cons_succ, List.length_cons, List.length_nil, Nat.reduceAdd, Nat.reduceLT, Nat.reduceLeDiff, Nat.zero_lt_succ, D.bl.injEq, D.int.injEq, D.str.injEq, exists_eq_left', exists_eq_left, true_and, and_true, forall_const, Bool.true_and, Bool.and_true, Bool.false_eq_true, Bool.not_true, Bool.not_false, if_true, true_implies, false_implies, eq_self, Bool.true_eq_false, reduceCtorEq, decide_true, decide_eq_true_eq, decide_eq_false_iff_not, Decidable.not_not, beq_self_eq_true, not_true_eq_false, not_false_eq_true, Bool.not_eq_true', Bool.not_eq_false', Option.some.injEq, wipeD, List.map_cons, List.map_nil, List.foldr_cons, List.foldr_nil, tgName, tgTup, tgNames, Option.bind_some, and_self, eqD_nil])
      exact ⟨by decide, _, rfl⟩
  | n + 1, .tup ds, h => by
    have h : (decide (ds.length ≤ 100000) && okDs n ds) = true := h
    rw [Bool.and_eq_true, decide_eq_true_eq, okDs_all, List.all_eq_true] at h
    refine semP_wp rfl ?_
    unfold il__law_alike
    show Rst.wp (evB _ _ ⟨[some (.im (.tup ds)), some (.im (.tup ds)), none], ⟨0, [], 0⟩⟩) _ _
    (try simp only [w_var, w_bor, w_kint, w_kstr, w_kbl, w_knon, w_gint, w_gstr, w_bin, w_binN, w_cmp, w_ix, w_chn, chnW_b, w_neg, w_notv, w_one, w_andv, w_orv, w_ite, w_tup, w_lst, w_cal, w_listN, w_tupC, w_intC, w_isi, w_isi2', w_sl, w_slN, w_pn, w_ps, w_nil, w_cons, w_tval, w_tcmp, w_tchn, w_tnot, w_tw, w_tone, w_tyes, w_tand, w_tor, w_seq, w_r1, w_r2, w_r3, w_fld, w_prop, w_enu, w_lrg, w_ltx, w_srt, Fl.f, w_snil, w_scons, w_ret, w_retN, w_asg, w_own, w_expr, w_if, w_for, w_brk, w_cnt, w_pass, w_raise, w_app2, ownL_o, w_par, w_unp, w_lcAf, w_lcAt, wp_of_some, wp_of_ite, wp_ok, wp_bad, wp_exc, wp_nx, wp_rt, wp_bk, wp_ct, wp_xc, wp_no, getV, borV, Bo.f, BoN.f, Co.f, Bi.f, Tg.t, addD_i, addD_s, addD_t, catD_l, subD_i, mulD_i, mulD_s, mulD_t, repD_l, fdivD_i, modD_i, eqD_s, eqD_i, eqD_b, neD_s, neD_i, neD_b, ltD_i, gtD_i, leD_i, geD_i, isND_n, notND_n, nonD_n, nonD_s, nonD_i, nonD_b, nonD_l, nonD_t, inD_s, ninD_s, ixD_l, ixD_t, lenD_l, lenD_t, lenD_s, max2_i, min2_i, listL_l, listL_t, tupL_l, tupL_t, int1_i, items_l, items_t, items_s, rng1_i, rng2_i, slD_s, slD_t, slN_l, isi_ss, isi_si, isi_sb, isi_sl, isi_st, isi_sn, isi_is, isi_ii, isi_ib, isi_il, isi_it, isi_in, isi_bs, isi_bi, isi_bb, isi_bl, isi_bt, isi_bn, isi_ls, isi_li, isi_lb, isi_ll, isi_lt, isi_ln, isi_ts, isi_ti, isi_tb, isi_tl, isi_tt, isi_tn, tl_s, tl_i, tl_b, tl_l, tl_t, tl_n, List.getElem?_cons_zero, List.getElem?_cons_succ, List.set_cons_zero, List.set_cons_succ, List.length_cons, List.length_nil, Nat.reduceAdd, Nat.reduceLT, Nat.reduceLeDiff, Nat.zero_lt_succ, D.bl.injEq, D.int.injEq, D.str.injEq, exists_eq_left', exists_eq_left, true_and, and_true, forall_const, Bool.true_and, Bool.and_true, Bool.false_eq_true, Bool.not_true, Bool.not_false, if_true, true_implies, false_implies, eq_self, Bool.true_eq_false, reduceCtorEq, decide_true, decide_eq_true_eq, decide_eq_false_iff_not, Decidable.not_not, beq_self_eq_true, not_true_eq_false, not_false_eq_true, Bool.not_eq_true', Bool.not_eq_false', Option.some.injEq, wipeD, List.map_cons, List.map_nil, List.foldr_cons, List.foldr_nil, tgName, tgTup, tgNames, Option.bind_some, and_self, neD_bb])
    refine ⟨by (first | omega | with_reducible assumption | (refine LN_le ?_; (try simp only [rot_len, List.length_append, List.length_drop, List.length_take, List.length_map, List.length_cons, List.length_nil, List.length_range, rangeD_len]); omega) | (refine LN_lt ?_; (try simp only [rot_len, List.length_append, List.length_drop, List.length_take, List.length_map, List.length_cons, List.length_nil, List.length_range, rangeD_len]); omega) | (refine big_le ?_ ?_ <;> (try simp only [rot_len, List.length_append, List.length_drop, List.length_take, List.length_map, List.length_cons, List.length_nil, List.length_range, rangeD_len]) <;> omega) | (refine big2 (big_le ?_ ?_) (big_le ?_ ?_) <;> (try simp only [rot_len, List.length_append, List.length_drop, List.length_take, List.length_map, List.length_cons, List.length_nil, List.length_range, rangeD_len]) <;> omega)), by (first | omega | with_reducible assumption | (refine LN_le ?_; (try simp only [rot_len, List.length_append, List.length_drop, List.length_take, List.length_map, List.length_cons, List.length_nil, List.length_range, rangeD_len]); omega) | (refine LN_lt ?_; (try simp only [rot_len, List.length_append, List.length_drop, List.length_take, List.length_map, List.length_cons, List.length_nil, List.length_range, rangeD_len]); omega) | (refine big_le ?_ ?_ <;> (try simp only [rot_len, List.length_append, List.length_drop, List.length_take, List.length_map, List.length_cons, List.length_nil, List.length_range, rangeD_len]) <;> omega) | (refine big2 (big_le ?_ ?_) (big_le ?_ ?_) <;> (try simp only [rot_len, List.length_append, List.length_drop, List.length_take, List.length_map, List.length_cons, List.length_nil, List.length_range, rangeD_len]) <;> omega)), ?_⟩
    refine wp_lcf (fun i : Nat => .int (0 + (i : Int))) (fun _ => false) (fun _ => .non) ?_
    (try simp only [w_var, w_bor, w_kint, w_kstr, w_kbl, w_knon, w_gint, w_gstr, w_bin, w_binN, w_cmp, w_ix, w_chn, chnW_b, w_neg, w_notv, w_one, w_andv, w_orv, w_ite, w_tup, w_lst, w_cal, w_listN, w_tupC, w_intC, w_isi, w_isi2', w_sl, w_slN, w_pn, w_ps, w_nil, w_cons, w_tval, w_tcmp, w_tchn, w_tnot, w_tw, w_tone, w_tyes, w_tand, w_tor, w_seq, w_r1, w_r2, w_r3, w_fld, w_prop, w_enu, w_lrg, w_ltx, w_srt, Fl.f, w_snil, w_ret, w_retN, w_asg, w_own, w_expr, w_if, w_for, w_brk, w_cnt, w_pass, w_raise, w_app2, ownL_o, w_par, w_unp, w_lcAf, w_lcAt, wp_of_some, wp_of_ite, wp_ok, wp_bad, wp_exc, wp_nx, wp_rt, wp_bk, wp_ct, wp_xc, wp_no, getV, borV, Bo.f, BoN.f, Co.f, Bi.f, Tg.t, addD_i, addD_s, addD_t, catD_l, subD_i, mulD_i, mulD_s, mulD_t, repD_l, fdivD_i, modD_i, eqD_s, eqD_i, eqD_b, neD_s, neD_i, neD_b, ltD_i, gtD_i, leD_i, geD_i, isND_n, notND_n, nonD_n, nonD_s, nonD_i, nonD_b, nonD_l, nonD_t, inD_s, ninD_s, ixD_l, ixD_t, lenD_l, lenD_t, lenD_s, max2_i, min2_i, listL_l, listL_t, tupL_l, tupL_t, int1_i, items_l, items_t, items_s, rng1_i, rng2_i, slD_s, slD_t, slN_l, isi_ss, isi_si, isi_sb, isi_sl, isi_st, isi_sn, isi_is, isi_ii, isi_ib, isi_il, isi_it, isi_in, isi_bs, isi_bi, isi_bb, isi_bl, isi_bt, isi_bn, isi_ls, isi_li, isi_lb, isi_ll, isi_lt, isi_ln, isi_ts, isi_ti, isi_tb, isi_tl, isi_tt, isi_tn, tl_s, tl_i, tl_b, tl_l, tl_t, tl_n, List.getElem?_cons_zero, List.getElem?_cons_succ, List.set_cons_zero, List.set_cons_succ, List.length_cons, List.length_nil, Nat.reduceAdd, Nat.reduceLT, Nat.reduceLeDiff, Nat.zero_lt_succ, D.bl.injEq, D.int.injEq, D.str.injEq, exists_eq_left', exists_eq_left, true_and, and_true, forall_const, Bool.true_and, Bool.and_true, Bool.false_eq_true, Bool.not_true, Bool.not_false, if_true, true_implies, false_implies, eq_self, Bool.true_eq_false, reduceCtorEq, decide_true, decide_eq_true_eq, decide_eq_false_iff_not, Decidable.not_not, beq_self_eq_true, not_true_eq_false, not_false_eq_true, Bool.not_eq_true', Bool.not_eq_false', Option.some.injEq, wipeD, List.map_cons, List.map_nil, List.foldr_cons, List.foldr_nil, tgName, tgTup, tgNames, Option.bind_some, and_self])
    refine ⟨by (first | omega | with_reducible assumption | (refine LN_le ?_; (try simp only [rot_len, List.length_append, List.length_drop, List.length_take, List.length_map, List.length_cons, List.length_nil, List.length_range, rangeD_len]); omega) | (refine LN_lt ?_; (try simp only [rot_len, List.length_append, List.length_drop, List.length_take, List.length_map, List.length_cons, List.length_nil, List.length_range, rangeD_len]); omega) | (refine big_le ?_ ?_ <;> (try simp only [rot_len, List.length_append, List.length_drop, List.length_take, List.length_map, List.length_cons, List.length_nil, List.length_range, rangeD_len]) <;> omega) | (refine big2 (big_le ?_ ?_) (big_le ?_ ?_) <;> (try simp only [rot_len, List.length_append, List.length_drop, List.length_take, List.length_map, List.length_cons, List.length_nil, List.length_range, rangeD_len]) <;> omega)), by (first | omega | with_reducible assumption | (refine LN_le ?_; (try simp only [rot_len, List.length_append, List.length_drop, List.length_take, List.length_map, List.length_cons, List.length_nil, List.length_range, rangeD_len]); omega) | (refine LN_lt ?_; (try simp only [rot_len, List.length_append, List.length_drop, List.length_take, List.length_map, List.length_cons, List.length_nil, List.length_range, rangeD_len]); omega) | (refine big_le ?_ ?_ <;> (try simp only [rot_len, List.length_append, List.length_drop, List.length_take, List.length_map, List.length_cons, List.length_nil, List.length_range, rangeD_len]) <;> omega) | (refine big2 (big_le ?_ ?_) (big_le ?_ ?_) <;> (try simp only [rot_len, List.length_append, List.length_drop, List.length_take, List.length_map, List.length_cons, List.length_nil, List.length_range, rangeD_len]) <;> omega)), rfl, List.range ds.length, rfl, by (first | omega | with_reducible assumption | (refine LN_le ?_; (try simp only [rot_len, List.length_append, List.length_drop, List.length_take, List.length_map, List.length_cons, List.length_nil, List.length_range, rangeD_len]); omega) | (refine LN_lt ?_; (try simp only [rot_len, List.length_append, List.length_drop, List.length_take, List.length_map, List.length_cons, List.length_nil, List.length_range, rangeD_len]); omega) | (refine big_le ?_ ?_ <;> (try simp only [rot_len, List.length_append, List.length_drop, List.length_take, List.length_map, List.length_cons, List.length_nil, List.length_range, rangeD_len]) <;> omega) | (refine big2 (big_le ?_ ?_) (big_le ?_ ?_) <;> (try simp only [rot_len, List.length_append, List.length_drop, List.length_take, List.length_map, List.length_cons, List.length_nil, List.length_range, rangeD_len]) <;> omega)), fun i hi => ?_, ?_⟩
    · have hi : i < ds.length := by simpa using hi
      (try simp only [w_var, w_bor, w_kint, w_kstr, w_kbl, w_knon, w_gint, w_gstr, w_bin, w_binN, w_cmp, w_ix, w_chn, chnW_b, w_neg, w_notv, w_one, w_andv, w_orv, w_ite, w_tup, w_lst, w_cal, w_listN, w_tupC, w_intC, w_isi, w_isi2', w_sl, w_slN, w_pn, w_ps, w_nil, w_cons, w_tval, w_tcmp, w_tchn, w_tnot, w_tw, w_tone, w_tyes, w_tand, w_tor, w_seq, w_r1, w_r2, w_r3, w_fld, w_prop, w_enu, w_lrg, w_ltx, w_srt, Fl.f, w_snil, w_ret, w_retN, w_asg, w_own, w_expr, w_if, w_for, w_brk, w_cnt, w_pass, w_raise, w_app2, ownL_o, w_par, w_unp, w_lcAf, w_lcAt, wp_of_some, wp_of_ite, wp_ok, wp_bad, wp_exc, wp_nx, wp_rt, wp_bk, wp_ct, wp_xc, wp_no, getV, borV, Bo.f, BoN.f, Co.f, Bi.f, Tg.t, addD_i, addD_s, addD_t, catD_l, subD_i, mulD_i, mulD_s, mulD_t, repD_l, fdivD_i, modD_i, eqD_s, eqD_i, eqD_b, neD_s, neD_i, neD_b, ltD_i, gtD_i, leD_i, geD_i, isND_n, notND_n, nonD_n, nonD_s, nonD_i, nonD_b, nonD_l, nonD_t, inD_s, ninD_s, ixD_l, ixD_t, lenD_l, lenD_t, lenD_s, max2_i, min2_i, listL_l, listL_t, tupL_l, tupL_t, int1_i, items_l, items_t, items_s, rng1_i, rng2_i, slD_s, slD_t, slN_l, isi_ss, isi_si, isi_sb, isi_sl, isi_st, isi_sn, isi_is, isi_ii, isi_ib, isi_il, isi_it, isi_in, isi_bs, isi_bi, isi_bb, isi_bl, isi_bt, isi_bn, isi_ls, isi_li, isi_lb, isi_ll, isi_lt, isi_ln, isi_ts, isi_ti, isi_tb, isi_tl, isi_tt, isi_tn, tl_s, tl_i, tl_b, tl_l, tl_t, tl_n, List.getElem?_cons_zero, List.getElem?_cons_succ, List.set_cons_zero, List.set_cons_succ, List.length_cons, List.length_nil, Nat.reduceAdd, Nat.reduceLT, Nat.reduceLeDiff, Nat.zero_lt_succ, D.bl.injEq, D.int.injEq, D.str.injEq, exists_eq_left', exists_eq_left, true_and, and_true, forall_const, Bool.true_and, Bool.and_true, Bool.false_eq_true, Bool.not_true, Bool.not_false, if_true, true_implies, false_implies, eq_self, Bool.true_eq_false, reduceCtorEq, decide_true, decide_eq_true_eq, decide_eq_false_iff_not, Decidable.not_not, beq_self_eq_true, not_true_eq_false, not_false_eq_true, Bool.not_eq_true', Bool.not_eq_false', Option.some.injEq, wipeD, List.map_cons, List.map_nil, List.foldr_cons, List.foldr_nil, tgName, tgTup, tgNames, Option.bind_some, and_self, atI_i (z := .non) hi])
      refine wp_call rfl ?_
      (try simp only [w_var, w_bor, w_kint, w_kstr, w_kbl, w_knon, w_gint, w_gstr, w_bin, w_binN, w_cmp, w_ix, w_chn, chnW_b, w_neg, w_notv, w_one, w_andv, w_orv, w_ite, w_tup, w_lst, w_cal, w_listN, w_tupC, w_intC, w_isi, w_isi2', w_sl, w_slN, w_pn, w_ps, w_nil, w_cons, w_tval, w_tcmp, w_tchn, w_tnot, w_tw, w_tone, w_tyes, w_tand, w_tor, w_seq, w_r1, w_r2, w_r3, w_fld, w_prop, w_enu, w_lrg, w_ltx, w_srt, Fl.f, w_snil, w_ret, w_retN, w_asg, w_own, w_expr, w_if, w_for, w_brk, w_cnt, w_pass, w_raise, w_app2, ownL_o, w_par, w_unp, w_lcAf, w_lcAt, wp_of_some, wp_of_ite, wp_ok, wp_bad, wp_exc, wp_nx, wp_rt, wp_bk, wp_ct, wp_xc, wp_no, getV, borV, Bo.f, BoN.f, Co.f, Bi.f, Tg.t, addD_i, addD_s, addD_t, catD_l, subD_i, mulD_i, mulD_s, mulD_t, repD_l, fdivD_i, modD_i, eqD_s, eqD_i, eqD_b, neD_s, neD_i, neD_b, ltD_i, gtD_i, leD_i, geD_i, isND_n, notND_n, nonD_n, nonD_s, nonD_i, nonD_b, nonD_l, nonD_t, inD_s, ninD_s, ixD_l, ixD_t, lenD_l, lenD_t, lenD_s, max2_i, min2_i, listL_l, listL_t, tupL_l, tupL_t, int1_i, items_l, items_t, items_s, rng1_i, rng2_i, slD_s, slD_t, slN_l, isi_ss, isi_si, isi_sb, isi_sl, isi_st, isi_sn, isi_is, isi_ii, isi_ib, isi_il, isi_it, isi_in, isi_bs, isi_bi, isi_bb, isi_bl, isi_bt, isi_bn, isi_ls, isi_li, isi_lb, isi_ll, isi_lt, isi_ln, isi_ts, isi_ti, isi_tb, isi_tl, isi_tt, isi_tn, tl_s, tl_i, tl_b, tl_l, tl_t, tl_n, List.getElem?_cons_zero, List.getElem?_cons_succ, List.set_cons_zero, List.set_cons_succ, List.length_cons, List.length_nil, Nat.reduceAdd, Nat.reduceLT, Nat.reduceLeDiff, Nat.zero_lt_succ, D.bl.injEq, D.int.injEq, D.str.injEq, exists_eq_left', exists_eq_left, true_and, and_true, forall_const, Bool.true_and, Bool.and_true, Bool.false_eq_true, Bool.not_true, Bool.not_false, if_true, true_implies, false_implies, eq_self, Bool.true_eq_false, reduceCtorEq, decide_true, decide_eq_true_eq, decide_eq_false_iff_not, Decidable.not_not, beq_self_eq_true, not_true_eq_false, not_false_eq_true, Bool.not_eq_true', Bool.not_eq_false', Option.some.injEq, wipeD, List.map_cons, List.map_nil, List.foldr_cons, List.foldr_nil, tgName, tgTup, tgNames, Option.bind_some, and_self, atI_i (z := .non) hi])
      refine ⟨_, v_alike n _ (h.2 _ ?_), ?_⟩
      · rw [List.getD_eq_getElem?_getD, List.getElem?_eq_getElem hi]
        exact List.getElem_mem hi
      · (try simp only [w_var, w_bor, w_kint, w_kstr, w_kbl, w_knon, w_gint, w_gstr, w_bin, w_binN, w_cmp, w_ix, w_chn, chnW_b, w_neg, w_notv, w_one, w_andv, w_orv, w_ite, w_tup, w_lst, w_cal, w_listN, w_tupC, w_intC, w_isi, w_isi2', w_sl, w_slN, w_pn, w_ps, w_nil, w_cons, w_tval, w_tcmp, w_tchn, w_tnot, w_tw, w_tone, w_tyes, w_tand, w_tor, w_seq, w_r1, w_r2, w_r3, w_fld, w_prop, w_enu, w_lrg, w_ltx, w_srt, Fl.f, w_snil, w_ret, w_retN, w_asg, w_own, w_expr, w_if, w_for, w_brk, w_cnt, w_pass, w_raise, w_app2, ownL_o, w_par, w_unp, w_lcAf, w_lcAt, wp_of_some, wp_of_ite, wp_ok, wp_bad, wp_exc, wp_nx, wp_rt, wp_bk, wp_ct, wp_xc, wp_no, getV, borV, Bo.f, BoN.f, Co.f, Bi.f, Tg.t, addD_i, addD_s, addD_t, catD_l, subD_i, mulD_i, mulD_s, mulD_t, repD_l, fdivD_i, modD_i, eqD_s, eqD_i, eqD_b, neD_s, neD_i, neD_b, ltD_i, gtD_i, leD_i, geD_i, isND_n, notND_n, nonD_n, nonD_s, nonD_i, nonD_b, nonD_l, nonD_t, inD_s, ninD_s, ixD_l, ixD_t, lenD_l, lenD_t, lenD_s, max2_i, min2_i, listL_l, listL_t, tupL_l, tupL_t, int1_i, items_l, items_t, items_s, rng1_i, rng2_i, slD_s, slD_t, slN_l, isi_ss, isi_si, isi_sb, isi_sl, isi_st, isi_sn, isi_is, isi_ii, isi_ib, isi_il, isi_it, isi_in, isi_bs, isi_bi, isi_bb, isi_bl, isi_bt, isi_bn, isi_ls, isi_li, isi_lb, isi_ll, isi_lt, isi_ln, isi_ts, isi_ti, isi_tb, isi_tl, isi_tt, isi_tn, tl_s, tl_i, tl_b, tl_l, tl_t, tl_n, List.getElem?_cons_zero, List.getElem?_cons_succ, List.set_cons_zero, List.set_cons_succ, List.length_cons, List.length_nil, Nat.reduceAdd, Nat.reduceLT, Nat.reduceLeDiff, Nat.zero_lt_succ, D.bl.injEq, D.int.injEq, D.str.injEq, exists_eq_left', exists_eq_left, true_and, and_true, forall_const, Bool.true_and, Bool.and_true, Bool.false_eq_true, Bool.not_true, Bool.not_false, if_true, true_implies, false_implies, eq_self, Bool.true_eq_false, reduceCtorEq, decide_true, decide_eq_true_eq, decide_eq_false_iff_not, Decidable.not_not, beq_self_eq_true, not_true_eq_false, not_false_eq_true, Bool.not_eq_true', Bool.not_eq_false', Option.some.injEq, wipeD, List.map_cons, List.map_nil, List.foldr_cons, List.foldr_nil, tgName, tgTup, tgNames, Option.bind_some, and_self])
    · rw [show (List.range ds.length).filter (fun _ => false) = [] from List.filter_eq_nil_iff.mpr (fun _ _ => by simp)]
      (try simp only [w_var, w_bor, w_kint, w_kstr, w_kbl, w_knon, w_gint, w_gstr, w_bin, w_binN, w_cmp, w_ix, w_chn, chnW_b, w_neg, w_notv, w_one, w_andv, w_orv, w_ite, w_tup, w_lst, w_cal, w_listN, w_tupC, w_intC, w_isi, w_isi2', w_sl, w_slN, w_pn, w_ps, w_nil, w_cons, w_tval, w_tcmp, w_tchn, w_tnot, w_tw, w_tone, w_tyes, w_tand, w_tor, w_seq, w_r1, w_r2, w_r3, w_fld, w_prop, w_enu, w_lrg, w_ltx, w_srt, Fl.f, w_snil, w_ret, w_retN, w_asg, w_own, w_expr, w_if, w_for, w_brk, w_cnt, w_pass, w_raise, w_app2, ownL_o, w_par, w_unp, w_lcAf, w_lcAt, wp_of_some, wp_of_ite, wp_ok, wp_bad, wp_exc, wp_nx, wp_rt, wp_bk, wp_ct, wp_xc, wp_no, getV, borV, Bo.f, BoN.f, Co.f, Bi.f, Tg.t, addD_i, addD_s, addD_t, catD_l, subD_i, mulD_i, mulD_s, mulD_t, repD_l, fdivD_i, modD_i, eqD_s, eqD_i, eqD_b, neD_s, neD_i, neD_b, ltD_i, gtD_i, leD_i, geD_i, isND_n, notND_n, nonD_n, nonD_s, nonD_i, nonD_b, nonD_l, nonD_t, inD_s, ninD_s, ixD_l, ixD_t, lenD_l, lenD_t, lenD_s, max2_i, min2_i, listL_l, listL_t, tupL_l, tupL_t, int1_i, items_l, items_t, items_s, rng1_i, rng2_i, slD_s, slD_t, slN_l, isi_ss, isi_si, isi_sb, isi_sl, isi_st, isi_sn, isi_is, isi_ii, isi_ib, isi_il, isi_it, isi_in, isi_bs, isi_bi, isi_bb, isi_bl, isi_bt, isi_bn, isi_ls, isi_li, isi_lb, isi_ll, isi_lt, isi_ln, isi_ts, isi_ti, isi_tb, isi_tl, isi_tt, isi_tn, tl_s, tl_i, tl_b, tl_l, tl_t, tl_n, List.getElem?_cons_zero, List.getElem?_cons_succ, List.set_cons_zero, List.set_cons_succ, List.length_cons, List.length_nil, Nat.reduceAdd, Nat.reduceLT, Nat.reduceLeDiff, Nat.zero_lt_succ, D.bl.injEq, D.int.injEq, D.str.injEq, exists_eq_left', exists_eq_left, true_and, and_true, forall_const, Bool.true_and, Bool.and_true, Bool.false_eq_true, Bool.not_true, Bool.not_false, if_true, true_implies, false_implies, eq_self, Bool.true_eq_false, reduceCtorEq, decide_true, decide_eq_true_eq, decide_eq_false_iff_not, Decidable.not_not, beq_self_eq_true, not_true_eq_false, not_false_eq_true, Bool.not_eq_true', Bool.not_eq_false', Option.some.injEq, wipeD, List.map_cons, List.map_nil, List.foldr_cons, List.foldr_nil, tgName, tgTup, tgNames, Option.bind_some, and_self, eqD_nil])
      exact ⟨by decide, _, rfl⟩
theorem v_pick {xs : List D} {sr : Src} (hs : sr.ok) (h0 : 0 < xs.length) (h1 : xs.length ≤ 1000) : (sem__law_pick [.lst xs] sr).wp (fun d sr' => sr'.ok ∧ d ∈ xs) (fun _ _ => False) := by
  refine semS_wp rfl ?_
  unfold il__law_pick
  show Rst.wp (evB _ _ ⟨[some .src, some (.im (.lst xs))], sr⟩) _ _
  (try simp only [w_var, w_bor, w_kint, w_kstr, w_kbl, w_knon, w_gint, w_gstr, w_bin, w_binN, w_cmp, w_ix, w_chn, chnW_b, w_neg, w_notv, w_one, w_andv, w_orv, w_ite, w_tup, w_lst, w_cal, w_listN, w_tupC, w_intC, w_isi, w_isi2', w_sl, w_slN, w_pn, w_ps, w_nil, w_cons, w_tval, w_tcmp, w_tchn, w_tnot, w_tw, w_tone, w_tyes, w_tand, w_tor, w_seq, w_r1, w_r2, w_r3, w_fld, w_prop, w_enu, w_lrg, w_ltx, w_srt, Fl.f, w_snil, w_scons, w_ret, w_retN, w_asg, w_own, w_expr, w_if, w_for, w_brk, w_cnt, w_pass, w_raise, w_app2, ownL_o, w_par, w_unp, w_lcAf, w_lcAt, wp_of_some, wp_of_ite, wp_ok, wp_bad, wp_exc, wp_nx, wp_rt, wp_bk, wp_ct, wp_xc, wp_no, getV, borV, Bo.f, BoN.f, Co.f, Bi.f, Tg.t, addD_i, addD_s, addD_t, catD_l, subD_i, mulD_i, mulD_s, mulD_t, repD_l, fdivD_i, modD_i, eqD_s, eqD_i, eqD_b, neD_s, neD_i, neD_b, ltD_i, gtD_i, leD_i, geD_i, isND_n, notND_n, nonD_n, nonD_s, nonD_i, nonD_b, nonD_l, nonD_t, inD_s, ninD_s, ixD_l, ixD_t, lenD_l, lenD_t, lenD_s, max2_i, min2_i, listL_l, listL_t, tupL_l, tupL_t, int1_i, items_l, items_t, items_s, rng1_i, rng2_i, slD_s, slD_t, slN_l, isi_ss, isi_si, isi_sb, isi_sl, isi_st, isi_sn, isi_is, isi_ii, isi_ib, isi_il, isi_it, isi_in, isi_bs, isi_bi, isi_bb, isi_bl, isi_bt, isi_bn, isi_ls, isi_li, isi_lb, isi_ll, isi_lt, isi_ln, isi_ts, isi_ti, isi_tb, isi_tl, isi_tt, isi_tn, tl_s, tl_i, tl_b, tl_l, tl_t, tl_n, List.getElem?_cons_zero, List.getElem?_cons_succ, List.set_cons_zero, List.set_cons_succ, List.length_cons, List.length_nil, Nat.reduceAdd, Nat.reduceLT, Nat.reduceLeDiff, Nat.zero_lt_succ, D.bl.injEq, D.int.injEq, D.str.injEq, exists_eq_left', exists_eq_left, true_and, and_true, forall_const, Bool.true_and, Bool.and_true, Bool.false_eq_true, Bool.not_true, Bool.not_false, if_true, true_implies, false_implies, eq_self, Bool.true_eq_false, reduceCtorEq, decide_true, decide_eq_true_eq, decide_eq_false_iff_not, Decidable.not_not, beq_self_eq_true, not_true_eq_false, not_false_eq_true, Bool.not_eq_true', Bool.not_eq_false', Option.some.injEq, wipeD, List.map_cons, List.map_nil, List.foldr_cons, List.foldr_nil, tgName, tgTup, tgNames, Option.bind_some, and_self])
  refine wp_next rfl rfl ?_
  (try simp only [w_var, w_bor, w_kint, w_kstr, w_kbl, w_knon, w_gint, w_gstr, w_bin, w_binN, w_cmp, w_ix, w_chn, chnW_b, w_neg, w_notv, w_one, w_andv, w_orv, w_ite, w_tup, w_lst, w_cal, w_listN, w_tupC, w_intC, w_isi, w_isi2', w_sl, w_slN, w_pn, w_ps, w_nil, w_cons, w_tval, w_tcmp, w_tchn, w_tnot, w_tw, w_tone, w_tyes, w_tand, w_tor, w_seq, w_r1, w_r2, w_r3, w_fld, w_prop, w_enu, w_lrg, w_ltx, w_srt, Fl.f, w_snil, w_scons, w_ret, w_retN, w_asg, w_own, w_expr, w_if, w_for, w_brk, w_cnt, w_pass, w_raise, w_app2, ownL_o, w_par, w_unp, w_lcAf, w_lcAt, wp_of_some, wp_of_ite, wp_ok, wp_bad, wp_exc, wp_nx, wp_rt, wp_bk, wp_ct, wp_xc, wp_no, getV, borV, Bo.f, BoN.f, Co.f, Bi.f, Tg.t, addD_i, addD_s, addD_t, catD_l, subD_i, mulD_i, mulD_s, mulD_t, repD_l, fdivD_i, modD_i, eqD_s, eqD_i, eqD_b, neD_s, neD_i, neD_b, ltD_i, gtD_i, leD_i, geD_i, isND_n, notND_n, nonD_n, nonD_s, nonD_i, nonD_b, nonD_l, nonD_t, inD_s, ninD_s, ixD_l, ixD_t, lenD_l, lenD_t, lenD_s, max2_i, min2_i, listL_l, listL_t, tupL_l, tupL_t, int1_i, items_l, items_t, items_s, rng1_i, rng2_i, slD_s, slD_t, slN_l, isi_ss, isi_si, isi_sb, isi_sl, isi_st, isi_sn, isi_is, isi_ii, isi_ib, isi_il, isi_it, isi_in, isi_bs, isi_bi, isi_bb, isi_bl, isi_bt, isi_bn, isi_ls, isi_li, isi_lb, isi_ll, isi_lt, isi_ln, isi_ts, isi_ti, isi_tb, isi_tl, isi_tt, isi_tn, tl_s, tl_i, tl_b, tl_l, tl_t, tl_n, List.getElem?_cons_zero, List.getElem?_cons_succ, List.set_cons_zero, List.set_cons_succ, List.length_cons, List.length_nil, Nat.reduceAdd, Nat.reduceLT, Nat.reduceLeDiff, Nat.zero_lt_succ, D.bl.injEq, D.int.injEq, D.str.injEq, exists_eq_left', exists_eq_left, true_and, and_true, forall_const, Bool.true_and, Bool.and_true, Bool.false_eq_true, Bool.not_true, Bool.not_false, if_true, true_implies, false_implies, eq_self, Bool.true_eq_false, reduceCtorEq, decide_true, decide_eq_true_eq, decide_eq_false_iff_not, Decidable.not_not, beq_self_eq_true, not_true_eq_false, not_false_eq_true, Bool.not_eq_true', Bool.not_eq_false', Option.some.injEq, wipeD, List.map_cons, List.map_nil, List.foldr_cons, List.foldr_nil, tgName, tgTup, tgNames, Option.bind_some, and_self])
  refine ⟨by (first | assumption | omega | (simp only [LN, big, rot_len, List.length_append, List.length_drop, List.length_take, List.length_map, List.length_cons, List.length_nil, List.length_range, Bool.and_eq_true, decide_eq_true_eq] at *; omega)), _, rfl, hs, ⟨by omega, by omega⟩, fun v sr2 v0 v1 ok2 => ?_⟩
  obtain ⟨n, rfl⟩ := Int.eq_ofNat_of_zero_le v0
  have hn : n < xs.length := by omega
  rw [show atI xs (n : Int) = some xs[n] from atI_nat (List.getElem?_eq_getElem hn)]
  (try simp only [w_var, w_bor, w_kint, w_kstr, w_kbl, w_knon, w_gint, w_gstr, w_bin, w_binN, w_cmp, w_ix, w_chn, chnW_b, w_neg, w_notv, w_one, w_andv, w_orv, w_ite, w_tup, w_lst, w_cal, w_listN, w_tupC, w_intC, w_isi, w_isi2', w_sl, w_slN, w_pn, w_ps, w_nil, w_cons, w_tval, w_tcmp, w_tchn, w_tnot, w_tw, w_tone, w_tyes, w_tand, w_tor, w_seq, w_r1, w_r2, w_r3, w_fld, w_prop, w_enu, w_lrg, w_ltx, w_srt, Fl.f, w_snil, w_scons, w_ret, w_retN, w_asg, w_own, w_expr, w_if, w_for, w_brk, w_cnt, w_pass, w_raise, w_app2, ownL_o, w_par, w_unp, w_lcAf, w_lcAt, wp_of_some, wp_of_ite, wp_ok, wp_bad, wp_exc, wp_nx, wp_rt, wp_bk, wp_ct, wp_xc, wp_no, getV, borV, Bo.f, BoN.f, Co.f, Bi.f, Tg.t, addD_i, addD_s, addD_t, catD_l, subD_i, mulD_i, mulD_s, mulD_t, repD_l, fdivD_i, modD_i, eqD_s, eqD_i, eqD_b, neD_s, neD_i, neD_b, ltD_i, gtD_i, leD_i, geD_i, isND_n, notND_n, nonD_n, nonD_s, nonD_i, nonD_b, nonD_l, nonD_t, inD_s, ninD_s, ixD_l, ixD_t, lenD_l, lenD_t, lenD_s, max2_i, min2_i, listL_l, listL_t, tupL_l, tupL_t, int1_i, items_l, items_t, items_s, rng1_i, rng2_i, slD_s, slD_t, slN_l, isi_ss, isi_si, isi_sb, isi_sl, isi_st, isi_sn, isi_is, isi_ii, isi_ib, isi_il, isi_it, isi_in, isi_bs, isi_bi, isi_bb, isi_bl, isi_bt, isi_bn, isi_ls, isi_li, isi_lb, isi_ll, isi_lt, isi_ln, isi_ts, isi_ti, isi_tb, isi_tl, isi_tt, isi_tn, tl_s, tl_i, tl_b, tl_l, tl_t, tl_n, List.getElem?_cons_zero, List.getElem?_cons_succ, List.set_cons_zero, List.set_cons_succ, List.length_cons, List.length_nil, Nat.reduceAdd, Nat.reduceLT, Nat.reduceLeDiff, Nat.zero_lt_succ, D.bl.injEq, D.int.injEq, D.str.injEq, exists_eq_left', exists_eq_left, true_and, and_true, forall_const, Bool.true_and, Bool.and_true, Bool.false_eq_true, Bool.not_true, Bool.not_false, if_true, true_implies, false_implies, eq_self, Bool.true_eq_false, reduceCtorEq, decide_true, decide_eq_true_eq, decide_eq_false_iff_not, Decidable.not_not, beq_self_eq_true, not_true_eq_false, not_false_eq_true, Bool.not_eq_true', Bool.not_eq_false', Option.some.injEq, wipeD, List.map_cons, List.map_nil, List.foldr_cons, List.foldr_nil, tgName, tgTup, tgNames, Option.bind_some, and_self])
  exact ⟨ok2, List.getElem_mem hn⟩
theorem v_text {l n : Int} {sr : Src} (hs : sr.ok) (l0 : 1 ≤ l) (l1 : l ≤ 4) (n0 : 0 ≤ n) (n1 : n ≤ 1000) : (sem__law_text [.int l, .int n] sr).wp (fun d sr' => sr'.ok ∧ ∃ w : Wd, d = .str w ∧ w.length = n.toNat ∧ isL l.toNat w) (fun _ _ => False) := by
  refine semS_wp rfl ?_
  unfold il__law_text
  show Rst.wp (evB _ _ ⟨[some .src, some (.im (.int l)), some (.im (.int n)), none, none], sr⟩) _ _
  (try simp only [w_var, w_bor, w_kint, w_kstr, w_kbl, w_knon, w_gint, w_gstr, w_bin, w_binN, w_cmp, w_ix, w_chn, chnW_b, w_neg, w_notv, w_one, w_andv, w_orv, w_ite, w_tup, w_lst, w_cal, w_listN, w_tupC, w_intC, w_isi, w_isi2', w_sl, w_slN, w_pn, w_ps, w_nil, w_cons, w_tval, w_tcmp, w_tchn, w_tnot, w_tw, w_tone, w_tyes, w_tand, w_tor, w_seq, w_r1, w_r2, w_r3, w_fld, w_prop, w_enu, w_lrg, w_ltx, w_srt, Fl.f, w_snil, w_scons, w_ret, w_retN, w_asg, w_own, w_expr, w_if, w_for, w_brk, w_cnt, w_pass, w_raise, w_app2, ownL_o, w_par, w_unp, w_lcAf, w_lcAt, wp_of_some, wp_of_ite, wp_ok, wp_bad, wp_exc, wp_nx, wp_rt, wp_bk, wp_ct, wp_xc, wp_no, getV, borV, Bo.f, BoN.f, Co.f, Bi.f, Tg.t, addD_i, addD_s, addD_t, catD_l, subD_i, mulD_i, mulD_s, mulD_t, repD_l, fdivD_i, modD_i, eqD_s, eqD_i, eqD_b, neD_s, neD_i, neD_b, ltD_i, gtD_i, leD_i, geD_i, isND_n, notND_n, nonD_n, nonD_s, nonD_i, nonD_b, nonD_l, nonD_t, inD_s, ninD_s, ixD_l, ixD_t, lenD_l, lenD_t, lenD_s, max2_i, min2_i, listL_l, listL_t, tupL_l, tupL_t, int1_i, items_l, items_t, items_s, rng1_i, rng2_i, slD_s, slD_t, slN_l, isi_ss, isi_si, isi_sb, isi_sl, isi_st, isi_sn, isi_is, isi_ii, isi_ib, isi_il, isi_it, isi_in, isi_bs, isi_bi, isi_bb, isi_bl, isi_bt, isi_bn, isi_ls, isi_li, isi_lb, isi_ll, isi_lt, isi_ln, isi_ts, isi_ti, isi_tb, isi_tl, isi_tt, isi_tn, tl_s, tl_i, tl_b, tl_l, tl_t, tl_n, List.getElem?_cons_zero, List.getElem?_cons_succ, List.set_cons_zero, List.set_cons_succ, List.length_cons, List.length_nil, Nat.reduceAdd, Nat.reduceLT, Nat.reduceLeDiff, Nat.zero_lt_succ, D.bl.injEq, D.int.injEq, D.str.injEq, exists_eq_left', exists_eq_left, true_and, and_true, forall_const, Bool.true_and, Bool.and_true, Bool.false_eq_true, Bool.not_true, Bool.not_false, if_true, true_implies, false_implies, eq_self, Bool.true_eq_false, reduceCtorEq, decide_true, decide_eq_true_eq, decide_eq_false_iff_not, Decidable.not_not, beq_self_eq_true, not_true_eq_false, not_false_eq_true, Bool.not_eq_true', Bool.not_eq_false', Option.some.injEq, wipeD, List.map_cons, List.map_nil, List.foldr_cons, List.foldr_nil, tgName, tgTup, tgNames, Option.bind_some, and_self])
  refine ⟨by (first | assumption | omega | (simp only [LN, big, rot_len, List.length_append, List.length_drop, List.length_take, List.length_map, List.length_cons, List.length_nil, List.length_range, Bool.and_eq_true, decide_eq_true_eq] at *; omega)), ?_⟩
  refine wp_forL (fun items s => ∃ (sr' : Src) (w : Wd) (k : Option DV), s = ⟨[some .src, some (.im (.int l)), some (.im (.int n)), some (.im (.str w)), k], sr'⟩ ∧ sr'.ok ∧ w.length + items.length = n.toNat ∧ isL l.toNat w) _ _ ⟨sr, [], none, rfl, hs, by rw [rangeD_len]; simp, by intro c hc; cases hc⟩ ?_ ?_
  · rintro d r s ⟨sr', w, k, rfl, hs', hl, hw⟩
    rw [List.length_cons] at hl
    refine ⟨_, rfl, ?_⟩
    (try simp only [w_var, w_bor, w_kint, w_kstr, w_kbl, w_knon, w_gint, w_gstr, w_bin, w_binN, w_cmp, w_ix, w_chn, chnW_b, w_neg, w_notv, w_one, w_andv, w_orv, w_ite, w_tup, w_lst, w_cal, w_listN, w_tupC, w_intC, w_isi, w_isi2', w_sl, w_slN, w_pn, w_ps, w_nil, w_cons, w_tval, w_tcmp, w_tchn, w_tnot, w_tw, w_tone, w_tyes, w_tand, w_tor, w_seq, w_r1, w_r2, w_r3, w_fld, w_prop, w_enu, w_lrg, w_ltx, w_srt, Fl.f, w_snil, w_scons, w_ret, w_retN, w_asg, w_own, w_expr, w_if, w_for, w_brk, w_cnt, w_pass, w_raise, w_app2, ownL_o, w_par, w_unp, w_lcAf, w_lcAt, wp_of_some, wp_of_ite, wp_ok, wp_bad, wp_exc, wp_nx, wp_rt, wp_bk, wp_ct, wp_xc, wp_no, getV, borV, Bo.f, BoN.f, Co.f, Bi.f, Tg.t, addD_i, addD_s, addD_t, catD_l, subD_i, mulD_i, mulD_s, mulD_t, repD_l, fdivD_i, modD_i, eqD_s, eqD_i, eqD_b, neD_s, neD_i, neD_b, ltD_i, gtD_i, leD_i, geD_i, isND_n, notND_n, nonD_n, nonD_s, nonD_i, nonD_b, nonD_l, nonD_t, inD_s, ninD_s, ixD_l, ixD_t, lenD_l, lenD_t, lenD_s, max2_i, min2_i, listL_l, listL_t, tupL_l, tupL_t, int1_i, items_l, items_t, items_s, rng1_i, rng2_i, slD_s, slD_t, slN_l, isi_ss, isi_si, isi_sb, isi_sl, isi_st, isi_sn, isi_is, isi_ii, isi_ib, isi_il, isi_it, isi_in, isi_bs, isi_bi, isi_bb, isi_bl, isi_bt, isi_bn, isi_ls, isi_li, isi_lb, isi_ll, isi_lt, isi_ln, isi_ts, isi_ti, isi_tb, isi_tl, isi_tt, isi_tn, tl_s, tl_i, tl_b, tl_l, tl_t, tl_n, List.getElem?_cons_zero, List.getElem?_cons_succ, List.set_cons_zero, List.set_cons_succ, List.length_cons, List.length_nil, Nat.reduceAdd, Nat.reduceLT, Nat.reduceLeDiff, Nat.zero_lt_succ, D.bl.injEq, D.int.injEq, D.str.injEq, exists_eq_left', exists_eq_left, true_and, and_true, forall_const, Bool.true_and, Bool.and_true, Bool.false_eq_true, Bool.not_true, Bool.not_false, if_true, true_implies, false_implies, eq_self, Bool.true_eq_false, reduceCtorEq, decide_true, decide_eq_true_eq, decide_eq_false_iff_not, Decidable.not_not, beq_self_eq_true, not_true_eq_false, not_false_eq_true, Bool.not_eq_true', Bool.not_eq_false', Option.some.injEq, wipeD, List.map_cons, List.map_nil, List.foldr_cons, List.foldr_nil, tgName, tgTup, tgNames, Option.bind_some, and_self])
    (refine wp_next rfl rfl ?_; (try simp only [w_var, w_bor, w_kint, w_kstr, w_kbl, w_knon, w_gint, w_gstr, w_bin, w_binN, w_cmp, w_ix, w_chn, chnW_b, w_neg, w_notv, w_one, w_andv, w_orv, w_ite, w_tup, w_lst, w_cal, w_listN, w_tupC, w_intC, w_isi, w_isi2', w_sl, w_slN, w_pn, w_ps, w_nil, w_cons, w_tval, w_tcmp, w_tchn, w_tnot, w_tw, w_tone, w_tyes, w_tand, w_tor, w_seq, w_r1, w_r2, w_r3, w_fld, w_prop, w_enu, w_lrg, w_ltx, w_srt, Fl.f, w_snil, w_ret, w_retN, w_asg, w_own, w_expr, w_if, w_for, w_brk, w_cnt, w_pass, w_raise, w_app2, ownL_o, w_par, w_unp, w_lcAf, w_lcAt, wp_of_some, wp_of_ite, wp_ok, wp_bad, wp_exc, wp_nx, wp_rt, wp_bk, wp_ct, wp_xc, wp_no, getV, borV, Bo.f, BoN.f, Co.f, Bi.f, Tg.t, addD_i, addD_s, addD_t, catD_l, subD_i, mulD_i, mulD_s, mulD_t, repD_l, fdivD_i, modD_i, eqD_s, eqD_i, eqD_b, neD_s, neD_i, neD_b, ltD_i, gtD_i, leD_i, geD_i, isND_n, notND_n, nonD_n, nonD_s, nonD_i, nonD_b, nonD_l, nonD_t, inD_s, ninD_s, ixD_l, ixD_t, lenD_l, lenD_t, lenD_s, max2_i, min2_i, listL_l, listL_t, tupL_l, tupL_t, int1_i, items_l, items_t, items_s, rng1_i, rng2_i, slD_s, slD_t, slN_l, isi_ss, isi_si, isi_sb, isi_sl, isi_st, isi_sn, isi_is, isi_ii, isi_ib, isi_il, isi_it, isi_in, isi_bs, isi_bi, isi_bb, isi_bl, isi_bt, isi_bn, isi_ls, isi_li, isi_lb, isi_ll, isi_lt, isi_ln, isi_ts, isi_ti, isi_tb, isi_tl, isi_tt, isi_tn, tl_s, tl_i, tl_b, tl_l, tl_t, tl_n, List.getElem?_cons_zero, List.getElem?_cons_succ, List.set_cons_zero, List.set_cons_succ, List.length_cons, List.length_nil, Nat.reduceAdd, Nat.reduceLT, Nat.reduceLeDiff, Nat.zero_lt_succ, D.bl.injEq, D.int.injEq, D.str.injEq, exists_eq_left', exists_eq_left, true_and, and_true, forall_const, Bool.true_and, Bool.and_true, Bool.false_eq_true, Bool.not_true, Bool.not_false, if_true, true_implies, false_implies, eq_self, Bool.true_eq_false, reduceCtorEq, decide_true, decide_eq_true_eq, decide_eq_false_iff_not, Decidable.not_not, beq_self_eq_true, not_true_eq_false, not_false_eq_true, Bool.not_eq_true', Bool.not_eq_false', Option.some.injEq, wipeD, List.map_cons, List.map_nil, List.foldr_cons, List.foldr_nil, tgName, tgTup, tgNames, Option.bind_some, and_self]); refine ⟨_, rfl, by assumption, ⟨by omega, by omega⟩, fun v sr2 v0 v1 ok2 => ?_⟩; (try simp only [w_var, w_bor, w_kint, w_kstr, w_kbl, w_knon, w_gint, w_gstr, w_bin, w_binN, w_cmp, w_ix, w_chn, chnW_b, w_neg, w_notv, w_one, w_andv, w_orv, w_ite, w_tup, w_lst, w_cal, w_listN, w_tupC, w_intC, w_isi, w_isi2', w_sl, w_slN, w_pn, w_ps, w_nil, w_cons, w_tval, w_tcmp, w_tchn, w_tnot, w_tw, w_tone, w_tyes, w_tand, w_tor, w_seq, w_r1, w_r2, w_r3, w_fld, w_prop, w_enu, w_lrg, w_ltx, w_srt, Fl.f, w_snil, w_ret, w_retN, w_asg, w_own, w_expr, w_if, w_for, w_brk, w_cnt, w_pass, w_raise, w_app2, ownL_o, w_par, w_unp, w_lcAf, w_lcAt, wp_of_some, wp_of_ite, wp_ok, wp_bad, wp_exc, wp_nx, wp_rt, wp_bk, wp_ct, wp_xc, wp_no, getV, borV, Bo.f, BoN.f, Co.f, Bi.f, Tg.t, addD_i, addD_s, addD_t, catD_l, subD_i, mulD_i, mulD_s, mulD_t, repD_l, fdivD_i, modD_i, eqD_s, eqD_i, eqD_b, neD_s, neD_i, neD_b, ltD_i, gtD_i, leD_i, geD_i, isND_n, notND_n, nonD_n, nonD_s, nonD_i, nonD_b, nonD_l, nonD_t, inD_s, ninD_s, ixD_l, ixD_t, lenD_l, lenD_t, lenD_s, max2_i, min2_i, listL_l, listL_t, tupL_l, tupL_t, int1_i, items_l, items_t, items_s, rng1_i, rng2_i, slD_s, slD_t, slN_l, isi_ss, isi_si, isi_sb, isi_sl, isi_st, isi_sn, isi_is, isi_ii, isi_ib, isi_il, isi_it, isi_in, isi_bs, isi_bi, isi_bb, isi_bl, isi_bt, isi_bn, isi_ls, isi_li, isi_lb, isi_ll, isi_lt, isi_ln, isi_ts, isi_ti, isi_tb, isi_tl, isi_tt, isi_tn, tl_s, tl_i, tl_b, tl_l, tl_t, tl_n, List.getElem?_cons_zero, List.getElem?_cons_succ, List.set_cons_zero, List.set_cons_succ, List.length_cons, List.length_nil, Nat.reduceAdd, Nat.reduceLT, Nat.reduceLeDiff, Nat.zero_lt_succ, D.bl.injEq, D.int.injEq, D.str.injEq, exists_eq_left', exists_eq_left, true_and, and_true, forall_const, Bool.true_and, Bool.and_true, Bool.false_eq_true, Bool.not_true, Bool.not_false, if_true, true_implies, false_implies, eq_self, Bool.true_eq_false, reduceCtorEq, decide_true, decide_eq_true_eq, decide_eq_false_iff_not, Decidable.not_not, beq_self_eq_true, not_true_eq_false, not_false_eq_true, Bool.not_eq_true', Bool.not_eq_false', Option.some.injEq, wipeD, List.map_cons, List.map_nil, List.foldr_cons, List.foldr_nil, tgName, tgTup, tgNames, Option.bind_some, and_self]))
    (try simp only [w_var, w_bor, w_kint, w_kstr, w_kbl, w_knon, w_gint, w_gstr, w_bin, w_binN, w_cmp, w_ix, w_chn, chnW_b, w_neg, w_notv, w_one, w_andv, w_orv, w_ite, w_tup, w_lst, w_cal, w_listN, w_tupC, w_intC, w_isi, w_isi2', w_sl, w_slN, w_pn, w_ps, w_nil, w_cons, w_tval, w_tcmp, w_tchn, w_tnot, w_tw, w_tone, w_tyes, w_tand, w_tor, w_seq, w_r1, w_r2, w_r3, w_fld, w_prop, w_enu, w_lrg, w_ltx, w_srt, Fl.f, w_snil, w_scons, w_ret, w_retN, w_asg, w_own, w_expr, w_if, w_for, w_brk, w_cnt, w_pass, w_raise, w_app2, ownL_o, w_par, w_unp, w_lcAf, w_lcAt, wp_of_some, wp_of_ite, wp_ok, wp_bad, wp_exc, wp_nx, wp_rt, wp_bk, wp_ct, wp_xc, wp_no, getV, borV, Bo.f, BoN.f, Co.f, Bi.f, Tg.t, addD_i, addD_s, addD_t, catD_l, subD_i, mulD_i, mulD_s, mulD_t, repD_l, fdivD_i, modD_i, eqD_s, eqD_i, eqD_b, neD_s, neD_i, neD_b, ltD_i, gtD_i, leD_i, geD_i, isND_n, notND_n, nonD_n, nonD_s, nonD_i, nonD_b, nonD_l, nonD_t, inD_s, ninD_s, ixD_l, ixD_t, lenD_l, lenD_t, lenD_s, max2_i, min2_i, listL_l, listL_t, tupL_l, tupL_t, int1_i, items_l, items_t, items_s, rng1_i, rng2_i, slD_s, slD_t, slN_l, isi_ss, isi_si, isi_sb, isi_sl, isi_st, isi_sn, isi_is, isi_ii, isi_ib, isi_il, isi_it, isi_in, isi_bs, isi_bi, isi_bb, isi_bl, isi_bt, isi_bn, isi_ls, isi_li, isi_lb, isi_ll, isi_lt, isi_ln, isi_ts, isi_ti, isi_tb, isi_tl, isi_tt, isi_tn, tl_s, tl_i, tl_b, tl_l, tl_t, tl_n, List.getElem?_cons_zero, List.getElem?_cons_succ, List.set_cons_zero, List.set_cons_succ, List.length_cons, List.length_nil, Nat.reduceAdd, Nat.reduceLT, Nat.reduceLeDiff, Nat.zero_lt_succ, D.bl.injEq, D.int.injEq, D.str.injEq, exists_eq_left', exists_eq_left, true_and, and_true, forall_const, Bool.true_and, Bool.and_true, Bool.false_eq_true, Bool.not_true, Bool.not_false, if_true, true_implies, false_implies, eq_self, Bool.true_eq_false, reduceCtorEq, decide_true, decide_eq_true_eq, decide_eq_false_iff_not, Decidable.not_not, beq_self_eq_true, not_true_eq_false, not_false_eq_true, Bool.not_eq_true', Bool.not_eq_false', Option.some.injEq, wipeD, List.map_cons, List.map_nil, List.foldr_cons, List.foldr_nil, tgName, tgTup, tgNames, Option.bind_some, and_self, ix_abcd v0 (show v < 4 by omega)])
    refine ⟨by (first | assumption | omega | (simp only [LN, big, rot_len, List.length_append, List.length_drop, List.length_take, List.length_map, List.length_cons, List.length_nil, List.length_range, Bool.and_eq_true, decide_eq_true_eq] at *; omega)), _, _, _, rfl, ok2, by simp; omega, fun c hc => ?_⟩
    rw [List.mem_append] at hc
    rcases hc with hc | hc
    · exact hw c hc
    · simp at hc; omega
  · rintro s ⟨sr', w, k, rfl, hs', hl, hw⟩
    (try simp only [w_var, w_bor, w_kint, w_kstr, w_kbl, w_knon, w_gint, w_gstr, w_bin, w_binN, w_cmp, w_ix, w_chn, chnW_b, w_neg, w_notv, w_one, w_andv, w_orv, w_ite, w_tup, w_lst, w_cal, w_listN, w_tupC, w_intC, w_isi, w_isi2', w_sl, w_slN, w_pn, w_ps, w_nil, w_cons, w_tval, w_tcmp, w_tchn, w_tnot, w_tw, w_tone, w_tyes, w_tand, w_tor, w_seq, w_r1, w_r2, w_r3, w_fld, w_prop, w_enu, w_lrg, w_ltx, w_srt, Fl.f, w_snil, w_scons, w_ret, w_retN, w_asg, w_own, w_expr, w_if, w_for, w_brk, w_cnt, w_pass, w_raise, w_app2, ownL_o, w_par, w_unp, w_lcAf, w_lcAt, wp_of_some, wp_of_ite, wp_ok, wp_bad, wp_exc, wp_nx, wp_rt, wp_bk, wp_ct, wp_xc, wp_no, getV, borV, Bo.f, BoN.f, Co.f, Bi.f, Tg.t, addD_i, addD_s, addD_t, catD_l, subD_i, mulD_i, mulD_s, mulD_t, repD_l, fdivD_i, modD_i, eqD_s, eqD_i, eqD_b, neD_s, neD_i, neD_b, ltD_i, gtD_i, leD_i, geD_i, isND_n, notND_n, nonD_n, nonD_s, nonD_i, nonD_b, nonD_l, nonD_t, inD_s, ninD_s, ixD_l, ixD_t, lenD_l, lenD_t, lenD_s, max2_i, min2_i, listL_l, listL_t, tupL_l, tupL_t, int1_i, items_l, items_t, items_s, rng1_i, rng2_i, slD_s, slD_t, slN_l, isi_ss, isi_si, isi_sb, isi_sl, isi_st, isi_sn, isi_is, isi_ii, isi_ib, isi_il, isi_it, isi_in, isi_bs, isi_bi, isi_bb, isi_bl, isi_bt, isi_bn, isi_ls, isi_li, isi_lb, isi_ll, isi_lt, isi_ln, isi_ts, isi_ti, isi_tb, isi_tl, isi_tt, isi_tn, tl_s, tl_i, tl_b, tl_l, tl_t, tl_n, List.getElem?_cons_zero, List.getElem?_cons_succ, List.set_cons_zero, List.set_cons_succ, List.length_cons, List.length_nil, Nat.reduceAdd, Nat.reduceLT, Nat.reduceLeDiff, Nat.zero_lt_succ, D.bl.injEq, D.int.injEq, D.str.injEq, exists_eq_left', exists_eq_left, true_and, and_true, forall_const, Bool.true_and, Bool.and_true, Bool.false_eq_true, Bool.not_true, Bool.not_false, if_true, true_implies, false_implies, eq_self, Bool.true_eq_false, reduceCtorEq, decide_true, decide_eq_true_eq, decide_eq_false_iff_not, Decidable.not_not, beq_self_eq_true, not_true_eq_false, not_false_eq_true, Bool.not_eq_true', Bool.not_eq_false', Option.some.injEq, wipeD, List.map_cons, List.map_nil, List.foldr_cons, List.foldr_nil, tgName, tgTup, tgNames, Option.bind_some, and_self])
    exact ⟨hs', by simpa using hl, hw⟩
theorem v_isint {a lo hi : Int} : sem_is_integer [.int a, .int lo, .int hi] = .ok (.bl (decide (lo ≤ a ∧ a ≤ hi))) := by
  refine semP_wp rfl ?_
  unfold il_is_integer
  show Rst.wp (evB _ _ ⟨[some (.im (.int a)), some (.im (.int lo)), some (.im (.int hi))], ⟨0, [], 0⟩⟩) _ _
  (try simp only [w_var, w_bor, w_kint, w_kstr, w_kbl, w_knon, w_gint, w_gstr, w_bin, w_binN, w_cmp, w_ix, w_chn, chnW_b, w_neg, w_notv, w_one, w_andv, w_orv, w_ite, w_tup, w_lst, w_cal, w_listN, w_tupC, w_intC, w_isi, w_isi2', w_sl, w_slN, w_pn, w_ps, w_nil, w_cons, w_tval, w_tcmp, w_tchn, w_tnot, w_tw, w_tone, w_tyes, w_tand, w_tor, w_seq, w_r1, w_r2, w_r3, w_fld, w_prop, w_enu, w_lrg, w_ltx, w_srt, Fl.f, w_snil, w_scons, w_ret, w_retN, w_asg, w_own, w_expr, w_if, w_for, w_brk, w_cnt, w_pass, w_raise, w_app2, ownL_o, w_par, w_unp, w_lcAf, w_lcAt, wp_of_some, wp_of_ite, wp_ok, wp_bad, wp_exc, wp_nx, wp_rt, wp_bk, wp_ct, wp_xc, wp_no, getV, borV, Bo.f, BoN.f, Co.f, Bi.f, Tg.t, addD_i, addD_s, addD_t, catD_l, subD_i, mulD_i, mulD_s, mulD_t, repD_l, fdivD_i, modD_i, eqD_s, eqD_i, eqD_b, neD_s, neD_i, neD_b, ltD_i, gtD_i, leD_i, geD_i, isND_n, notND_n, nonD_n, nonD_s, nonD_i, nonD_b, nonD_l, nonD_t, inD_s, ninD_s, ixD_l, ixD_t, lenD_l, lenD_t, lenD_s, max2_i, min2_i, listL_l, listL_t, tupL_l, tupL_t, int1_i, items_l, items_t, items_s, rng1_i, rng2_i, slD_s, slD_t, slN_l, isi_ss, isi_si, isi_sb, isi_sl, isi_st, isi_sn, isi_is, isi_ii, isi_ib, isi_il, isi_it, isi_in, isi_bs, isi_bi, isi_bb, isi_bl, isi_bt, isi_bn, isi_ls, isi_li, isi_lb, isi_ll, isi_lt, isi_ln, isi_ts, isi_ti, isi_tb, isi_tl, isi_tt, isi_tn, tl_s, tl_i, tl_b, tl_l, tl_t, tl_n, List.getElem?_cons_zero, List.getElem?_cons_succ, List.set_cons_zero, List.set_cons_succ, List.length_cons, List.length_nil, Nat.reduceAdd, Nat.reduceLT, Nat.reduceLeDiff, Nat.zero_lt_succ, D.bl.injEq, D.int.injEq, D.str.injEq, exists_eq_left', exists_eq_left, true_and, and_true, forall_const, Bool.true_and, Bool.and_true, Bool.false_eq_true, Bool.not_true, Bool.not_false, if_true, true_implies, false_implies, eq_self, Bool.true_eq_false, reduceCtorEq, decide_true, decide_eq_true_eq, decide_eq_false_iff_not, Decidable.not_not, beq_self_eq_true, not_true_eq_false, not_false_eq_true, Bool.not_eq_true', Bool.not_eq_false', Option.some.injEq, wipeD, List.map_cons, List.map_nil, List.foldr_cons, List.foldr_nil, tgName, tgTup, tgNames, Option.bind_some, and_self])
  refine ⟨fun h => ?_, fun h => ?_⟩
  · rw [show decide (lo ≤ a ∧ a ≤ hi) = decide (a ≤ hi) by rw [decide_eq_decide]; omega]; exact ⟨_, rfl⟩
  · rw [show decide (lo ≤ a ∧ a ≤ hi) = false by rw [decide_eq_false_iff_not]; omega]; exact ⟨_, rfl⟩
theorem leW_wlt (a b : Wd) : leW a b = !wlt b a := by
  unfold leW
  show (!PySem.W.dataLt (.str (S b)) (.str (S a))) = _
  exact congrArg (!·) (dlt_str b a)
theorem leW_anti {a b : Wd} (h : leW a b = true) (h' : leW b a = true) : a = b := by
  rw [leW_wlt] at h h'
  exact wlt_total (by simpa using h') (by simpa using h)
theorem leW_trans {a b c : Wd} (h : leW a b = true) (h' : leW b c = true) : leW a c = true := by
  rw [leW_wlt] at h h' ⊢
  have := wlt_neg (a := c) (b := b) (c := a) (by simpa using h') (by simpa using h)
  simpa using this
theorem leW_total (a b : Wd) : (leW a b || leW b a) = true := by
  rw [leW_wlt, leW_wlt]
  cases h : wlt b a with
  | false => rfl
  | true =>
    cases h' : wlt a b with
    | false => rfl
    | true => have := wlt_trans h h'; rw [wlt_irrefl] at this; cases this
theorem sort_perm {xs ys : List Wd} (h : xs.Perm ys) : xs.mergeSort leW = ys.mergeSort leW := by
  refine List.Perm.eq_of_pairwise (le := fun a b => leW a b = true) (fun a b _ _ h1 h2 => leW_anti h1 h2) ?_ ?_ ?_
  · exact List.pairwise_mergeSort (le := leW) (fun a b c h h' => leW_trans h h') leW_total xs
  · exact List.pairwise_mergeSort (le := leW) (fun a b c h h' => leW_trans h h') leW_total ys
  · exact (List.mergeSort_perm xs leW).trans (h.trans (List.mergeSort_perm ys leW).symm)
theorem strsOf_ltx (w : Wd) : strsOf (w.map fun c => D.str [c]) = some (w.map fun c => [c]) := by
  induction w with
  | nil => rfl
  | cons c r ih => simp [strsOf, ih]
theorem rot_perm (w : Wd) (i : Nat) : (rot w i).Perm w := by
  unfold rot
  have := List.perm_append_comm (l₁ := w.drop i) (l₂ := w.take i)
  rw [List.take_append_drop] at this
  exact this
theorem okD_l {n : Nat} {ws : List Wd} (h : ws.length ≤ 100000) : okD (n + 1) (.lst (ws.map .str)) = true := (okD_w h).1
theorem ltxD_s {w : Wd} (h : w.length ≤ 1000) : ltxD [.str w] = some (.lst (w.map fun c => .str [c])) := by
  show (if w.length ≤ LN then some (D.lst (w.map fun c => D.str [c])) else none) = _
  rw [if_pos (LN_le (by omega))]
/-- a word's letters in order -/
def sorW (w : Wd) : List Wd := (w.map fun c => [c]).mergeSort leW
theorem srtD_w {w : Wd} (h : w.length ≤ 1000) : srtD [.lst (w.map fun c => .str [c])] = some (.lst ((sorW w).map .str)) := by
  unfold srtD
  dsimp only
  rw [strsOf_ltx]
  show (if (w.map fun c => [c]).length ≤ LN then _ else _) = _
  rw [if_pos (LN_le (by rw [List.length_map]; omega))]
  rfl
theorem sorW_rot (w : Wd) (i : Nat) : sorW (rot w i) = sorW w := sort_perm ((rot_perm w i).map _)
theorem sorW_len (w : Wd) : (sorW w).length = w.length := by unfold sorW; rw [List.length_mergeSort, List.length_map]
theorem anyD_str5 (w : Wd) (ws : List Wd) : anyD (.str w) (ws.map .str) = decide (w ∈ ws) := by
  induction ws with
  | nil => simp [anyD]
  | cons x r ih =>
    show (deq (.str x) (.str w) || anyD (.str w) (r.map .str)) = _
    rw [ih]
    simp [deq, eq_comm]
theorem ninD_lw5 (w : Wd) (ws : List Wd) : ninD (.str w) (.lst (ws.map .str)) = some (.bl (!decide (w ∈ ws))) := by
  rw [ninD_l, plns_str, anyD_str5]; rfl
/-- all words of a length, ascending -/
def ascW (l : Nat) : Nat → List Wd
  | 0 => [[]]
  | n + 1 => (ascW l n).flatMap fun w => (List.range l).map fun c => w ++ [97 + c]
theorem ascW_mem {l : Nat} : ∀ {n : Nat} {w : Wd}, w ∈ ascW l n ↔ w.length = n ∧ isL l w
  | 0, w => by
    unfold ascW
    constructor
    · intro h
      have h : w = [] := by simpa using h
      subst h
      exact ⟨rfl, fun c hc => by cases hc⟩
    · rintro ⟨h, _⟩
      rw [List.length_eq_zero_iff.mp h]; simp
  | n + 1, w => by
    unfold ascW
    rw [List.mem_flatMap]
    constructor
    · rintro ⟨u, hu, hw⟩
      obtain ⟨h1, h2⟩ := ascW_mem.mp hu
      obtain ⟨c, hc, rfl⟩ := List.mem_map.mp hw
      have hc : c < l := by simpa using hc
      refine ⟨by simp [h1], fun x hx => ?_⟩
      rw [List.mem_append] at hx
      rcases hx with hx | hx
      · exact h2 x hx
      · have : x = 97 + c := by simpa using hx
        omega
    · rintro ⟨h1, h2⟩
      rcases List.eq_nil_or_concat w with h | ⟨u, c, h⟩
      · subst h; cases h1
      · rw [List.concat_eq_append] at h
        subst h
        have hc := h2 c (by simp)
        refine ⟨u, ascW_mem.mpr ⟨by simpa using h1, fun x hx => h2 x (by simp [hx])⟩, ?_⟩
        rw [List.mem_map]
        exact ⟨c - 97, by simp; omega, by congr 2; omega⟩
theorem ascW_len (l : Nat) : ∀ n, (ascW l n).length = l ^ n
  | 0 => rfl
  | n + 1 => by
    unfold ascW
    rw [List.length_flatMap]
    have : ((ascW l n).map fun w => ((List.range l).map fun c => w ++ [97 + c]).length) = List.replicate (l ^ n) l := by
      rw [List.eq_replicate_iff]
      refine ⟨by rw [List.length_map, ascW_len l n], fun b hb => ?_⟩
      obtain ⟨w, _, rfl⟩ := List.mem_map.mp hb
      simp
    rw [this, List.sum_replicate_nat, Nat.pow_succ]
def sglB (w : Wd) : Bool := decide (UF w = ([w], []))
theorem sglB_iff {w : Wd} : sglB w = true ↔ Sgl w := by unfold sglB Sgl; exact decide_eq_true_iff
def codeL (l n : Nat) : List Wd := (ascW l n).filter sglB
theorem codeL_mem {l n : Nat} {w : Wd} : w ∈ codeL l n ↔ (w.length = n ∧ isL l w) ∧ Sgl w := by
  unfold codeL
  rw [List.mem_filter, ascW_mem, sglB_iff]
def ascB : List Wd → Bool
  | a :: b :: r => leW a b && ascB (b :: r)
  | _ => true
theorem asc_pair : ∀ {ws : List Wd}, ascB ws = true → ws.Pairwise fun a b => leW a b = true
  | [], _ => .nil
  | [a], _ => .cons (fun _ h => by cases h) .nil
  | a :: b :: r, h => by
    unfold ascB at h
    rw [Bool.and_eq_true] at h
    have ih := asc_pair h.2
    refine .cons (fun x hx => ?_) ih
    rcases List.mem_cons.mp hx with rfl | hx
    · exact h.1
    · exact leW_trans h.1 ((List.pairwise_cons.mp ih).1 x hx)
def sizes06 : List (Nat × Nat) := [(2, 1), (2, 3), (2, 5), (2, 7), (2, 9), (3, 1), (3, 3), (3, 5), (4, 1), (4, 3), (4, 5), (2, 11), (3, 7)]
def isI6 : Rf → Int → Bool
  | .ok (.int i), j => decide (i = j)
  | _, _ => false
theorem isI6_eq {r : Rf} {j : Int} (h : isI6 r j = true) : r = .ok (.int j) := by
  unfold isI6 at h
  split at h
  · rw [of_decide_eq_true h]
  · cases h
theorem inD_lw6 (w : Wd) (ws : List Wd) : inD (.str w) (.lst (ws.map .str)) = some (.bl (decide (w ∈ ws))) := by
  rw [inD_l, plns_str, anyD_str5]; rfl
theorem tab06 : (sizes06.all fun p => ascB (codeL p.1 p.2) && isI6 (sem_rings [.int (p.1 : Int), .int (p.2 : Int)]) (((codeL p.1 p.2).length : Nat) : Int) && isI6 (sem_power [.int (p.1 : Int), .int (p.2 : Int)]) (((p.1 ^ p.2 : Nat) : Nat) : Int) && decide (p.1 ^ p.2 ≤ 2187) && decide (p.2 % 2 = 1) && decide (2 ≤ p.1) && decide (p.1 ≤ 4) && decide (p.2 ≤ 11) && decide ((codeL p.1 p.2).length ≤ 2187)) = true := by decide +kernel

end Cut
namespace Cut
open PySem PySem.Spec L2
open PyProof.Rows hiding St
theorem atI_at {α : Type} {xs : List α} {z : Int} {k : Nat} {d : α} (hz : z = (k : Int)) (h : xs[k]? = some d) : atI xs z = some d := by
  have hk := (List.getElem?_eq_some_iff.mp h).1
  unfold atI ixN
  rw [if_pos (by omega), if_pos (by omega), show z.toNat = k by omega]
  exact h
theorem atI_last {α : Type} (xs : List α) (d : α) : atI (xs ++ [d]) (-1) = some d := by
  unfold atI ixN
  rw [if_neg (by omega), if_pos (by simp; omega), show (-1 + (((xs ++ [d]).length : Nat) : Int)).toNat = xs.length by simp; omega]
  simp
theorem ixN_last {α : Type} (xs : List α) (d : α) : ixN (xs ++ [d]).length (-1) = some xs.length := by
  unfold ixN
  rw [if_neg (by omega), if_pos (by simp; omega)]
  simp; omega
theorem wp_setI {Γ : Gam} {s : DS} {N : DS → Prop} {E : Rst → Prop} {i : Nat} {a b es : Ex} (h : (evE Γ a s).wp (fun e s1 => ∃ xs0, ownL s1.env[i]? = some xs0 ∧ (evE Γ b s1).wp (fun d s2 => ∃ k xs j, d = .int k ∧ ownL s2.env[i]? = some xs ∧ ixN xs.length k = some j ∧ N { s2 with env := s2.env.set i (some (.own (.lst (xs.set j e)))) }) (fun x s => E (.exc x s))) (fun x s => E (.exc x s))) : (evS Γ (.sx (.setI i) a b es) s).wp N E := by
  show (setIS i (evE Γ a) (evE Γ b) s).wp N E
  unfold setIS
  rw [wp_then]
  refine h.imp fun e s1 ⟨xs0, h1, h2⟩ => ?_
  rw [ownL_of h1]
  dsimp only
  rw [wp_then]
  refine h2.imp fun d s2 ⟨k, xs, j, h3, h4, h5, h6⟩ => ?_
  subst h3
  rw [ownL_of h4]
  dsimp only
  rw [h5]
  exact h6
theorem atI2_0 (x y : D) : atI [x, y] 0 = some x := rfl
theorem atI2_1 (x y : D) : atI [x, y] 1 = some y := rfl
def pieceD (p : Nat × Wd) : D := .tup [.int (0 + (p.1 : Int)), .str p.2]
theorem v_joined {ps : List (Nat × Wd)} {x : Wd} (hl : ps.length ≤ 1000) (ho : ∃ p, p ∈ ps ∧ p.2 ≠ x) (ht : (texts ps).flatten.length ≤ 1000) : sem_joined [.lst (ps.map pieceD), .str x] = .ok (.lst ((joinP ps x).map pieceD)) := by
  obtain ⟨k1, k2, p0, k3, k4⟩ := skip_lt ho
  have h60 : skipN x ps + 1 - 0 < 10 ^ 60 := by
    have : (10 : Nat) ^ 60 > 100000 := by decide
    omega
  refine semP_wp rfl ?_
  unfold il_joined
  show Rst.wp (evB _ _ ⟨[some (.im (.lst (ps.map pieceD))), some (.im (.str x)), none, none, none, none], ⟨0, [], 0⟩⟩) _ _
  rw [w_scons]
  (try simp only [w_var, w_bor, w_kint, w_kstr, w_kbl, w_knon, w_gint, w_gstr, w_bin, w_binN, w_cmp, w_ix, w_chn, chnW_b, w_neg, w_notv, w_one, w_andv, w_orv, w_ite, w_tup, w_lst, w_cal, w_listN, w_tupC, w_intC, w_isi, w_isi2', w_sl, w_slN, w_pn, w_ps, w_nil, w_cons, w_tval, w_tcmp, w_tchn, w_tnot, w_tw, w_tone, w_tyes, w_tand, w_tor, w_seq, w_r1, w_r2, w_r3, w_fld, w_prop, w_enu, w_lrg, w_ltx, w_srt, Fl.f, w_snil, w_ret, w_retN, w_asg, w_own, w_expr, w_if, w_for, w_brk, w_cnt, w_pass, w_raise, w_app2, ownL_o, w_par, w_unp, w_lcAf, w_lcAt, wp_of_some, wp_of_ite, wp_ok, wp_bad, wp_exc, wp_nx, wp_rt, wp_bk, wp_ct, wp_xc, wp_no, getV, borV, Bo.f, BoN.f, Co.f, Bi.f, Tg.t, addD_i, addD_s, addD_t, catD_l, subD_i, mulD_i, mulD_s, mulD_t, repD_l, fdivD_i, modD_i, eqD_s, eqD_i, eqD_b, neD_s, neD_i, neD_b, ltD_i, gtD_i, leD_i, geD_i, isND_n, notND_n, nonD_n, nonD_s, nonD_i, nonD_b, nonD_l, nonD_t, inD_s, ninD_s, ixD_l, ixD_t, lenD_l, lenD_t, lenD_s, max2_i, min2_i, listL_l, listL_t, tupL_l, tupL_t, int1_i, items_l, items_t, items_s, rng1_i, rng2_i, slD_s, slD_t, slN_l, isi_ss, isi_si, isi_sb, isi_sl, isi_st, isi_sn, isi_is, isi_ii, isi_ib, isi_il, isi_it, isi_in, isi_bs, isi_bi, isi_bb, isi_bl, isi_bt, isi_bn, isi_ls, isi_li, isi_lb, isi_ll, isi_lt, isi_ln, isi_ts, isi_ti, isi_tb, isi_tl, isi_tt, isi_tn, tl_s, tl_i, tl_b, tl_l, tl_t, tl_n, List.getElem?_cons_zero, List.getElem?_cons_succ, List.set_cons_zero, List.set_cons_succ, List.length_cons, List.length_nil, Nat.reduceAdd, Nat.reduceLT, Nat.reduceLeDiff, Nat.zero_lt_succ, D.bl.injEq, D.int.injEq, D.str.injEq, exists_eq_left', exists_eq_left, true_and, and_true, forall_const, Bool.true_and, Bool.and_true, Bool.false_eq_true, Bool.not_true, Bool.not_false, if_true, true_implies, false_implies, eq_self, Bool.true_eq_false, reduceCtorEq, decide_true, decide_eq_true_eq, decide_eq_false_iff_not, Decidable.not_not, beq_self_eq_true, not_true_eq_false, not_false_eq_true, Bool.not_eq_true', Bool.not_eq_false', Option.some.injEq, wipeD, List.map_cons, List.map_nil, List.foldr_cons, List.foldr_nil, tgName, tgTup, tgNames, Option.bind_some, and_self])
  rw [w_scons, w_whl]
  refine wp_while (fun s => ∃ (z : Int) (k : Nat), z = (k : Int) ∧ k ≤ skipN x ps ∧ s = ⟨[some (.im (.lst (ps.map pieceD))), some (.im (.str x)), some (.im (.int z)), none, none, none], ⟨0, [], 0⟩⟩) (fun s => (skipN x ps + 1 - (intAt s.env[2]?).toNat)) ?_ _ _ ⟨0, 0, rfl, Nat.zero_le _, rfl⟩ (by simpa [intAt] using h60)
  · rintro s ⟨z, k, hz, hk, rfl⟩
    obtain ⟨p, hp, hpx⟩ : ∃ p, ps[k]? = some p ∧ (p.2 = x ↔ k < skipN x ps) := by
      rcases Nat.lt_or_ge k (skipN x ps) with h | h
      · obtain ⟨p, h1, h2⟩ := k2 k h
        exact ⟨p, h1, fun _ => h, fun _ => h2⟩
      · have : k = skipN x ps := by omega
        subst this
        exact ⟨p0, k3, fun h1 => absurd h1 k4, fun h1 => absurd h1 (by omega)⟩
    have e1 : atI (ps.map pieceD) z = some (.tup [.int (0 + (p.1 : Int)), .str p.2]) := atI_at hz (by rw [List.getElem?_map, hp]; rfl)
    (try simp only [w_var, w_bor, w_kint, w_kstr, w_kbl, w_knon, w_gint, w_gstr, w_bin, w_binN, w_cmp, w_ix, w_chn, chnW_b, w_neg, w_notv, w_one, w_andv, w_orv, w_ite, w_tup, w_lst, w_cal, w_listN, w_tupC, w_intC, w_isi, w_isi2', w_sl, w_slN, w_pn, w_ps, w_nil, w_cons, w_tval, w_tcmp, w_tchn, w_tnot, w_tw, w_tone, w_tyes, w_tand, w_tor, w_seq, w_r1, w_r2, w_r3, w_fld, w_prop, w_enu, w_lrg, w_ltx, w_srt, Fl.f, w_snil, w_ret, w_retN, w_asg, w_own, w_expr, w_if, w_for, w_brk, w_cnt, w_pass, w_raise, w_app2, ownL_o, w_par, w_unp, w_lcAf, w_lcAt, wp_of_some, wp_of_ite, wp_ok, wp_bad, wp_exc, wp_nx, wp_rt, wp_bk, wp_ct, wp_xc, wp_no, getV, borV, Bo.f, BoN.f, Co.f, Bi.f, Tg.t, addD_i, addD_s, addD_t, catD_l, subD_i, mulD_i, mulD_s, mulD_t, repD_l, fdivD_i, modD_i, eqD_s, eqD_i, eqD_b, neD_s, neD_i, neD_b, ltD_i, gtD_i, leD_i, geD_i, isND_n, notND_n, nonD_n, nonD_s, nonD_i, nonD_b, nonD_l, nonD_t, inD_s, ninD_s, ixD_l, ixD_t, lenD_l, lenD_t, lenD_s, max2_i, min2_i, listL_l, listL_t, tupL_l, tupL_t, int1_i, items_l, items_t, items_s, rng1_i, rng2_i, slD_s, slD_t, slN_l, isi_ss, isi_si, isi_sb, isi_sl, isi_st, isi_sn, isi_is, isi_ii, isi_ib, isi_il, isi_it, isi_in, isi_bs, isi_bi, isi_bb, isi_bl, isi_bt, isi_bn, isi_ls, isi_li, isi_lb, isi_ll, isi_lt, isi_ln, isi_ts, isi_ti, isi_tb, isi_tl, isi_tt, isi_tn, tl_s, tl_i, tl_b, tl_l, tl_t, tl_n, List.getElem?_cons_zero, List.getElem?_cons_succ, List.set_cons_zero, List.set_cons_succ, List.length_cons, List.length_nil, Nat.reduceAdd, Nat.reduceLT, Nat.reduceLeDiff, Nat.zero_lt_succ, D.bl.injEq, D.int.injEq, D.str.injEq, exists_eq_left', exists_eq_left, true_and, and_true, forall_const, Bool.true_and, Bool.and_true, Bool.false_eq_true, Bool.not_true, Bool.not_false, if_true, true_implies, false_implies, eq_self, Bool.true_eq_false, reduceCtorEq, decide_true, decide_eq_true_eq, decide_eq_false_iff_not, Decidable.not_not, beq_self_eq_true, not_true_eq_false, not_false_eq_true, Bool.not_eq_true', Bool.not_eq_false', Option.some.injEq, wipeD, List.map_cons, List.map_nil, List.foldr_cons, List.foldr_nil, tgName, tgTup, tgNames, Option.bind_some, and_self, e1, atI2_1])
    refine And.intro (fun he => ?_) (fun hne => ?_)
    · rw [w_scons, w_aug rfl]
      (try simp only [w_var, w_bor, w_kint, w_kstr, w_kbl, w_knon, w_gint, w_gstr, w_bin, w_binN, w_cmp, w_ix, w_chn, chnW_b, w_neg, w_notv, w_one, w_andv, w_orv, w_ite, w_tup, w_lst, w_cal, w_listN, w_tupC, w_intC, w_isi, w_isi2', w_sl, w_slN, w_pn, w_ps, w_nil, w_cons, w_tval, w_tcmp, w_tchn, w_tnot, w_tw, w_tone, w_tyes, w_tand, w_tor, w_seq, w_r1, w_r2, w_r3, w_fld, w_prop, w_enu, w_lrg, w_ltx, w_srt, Fl.f, w_snil, w_ret, w_retN, w_asg, w_own, w_expr, w_if, w_for, w_brk, w_cnt, w_pass, w_raise, w_app2, ownL_o, w_par, w_unp, w_lcAf, w_lcAt, wp_of_some, wp_of_ite, wp_ok, wp_bad, wp_exc, wp_nx, wp_rt, wp_bk, wp_ct, wp_xc, wp_no, getV, borV, Bo.f, BoN.f, Co.f, Bi.f, Tg.t, addD_i, addD_s, addD_t, catD_l, subD_i, mulD_i, mulD_s, mulD_t, repD_l, fdivD_i, modD_i, eqD_s, eqD_i, eqD_b, neD_s, neD_i, neD_b, ltD_i, gtD_i, leD_i, geD_i, isND_n, notND_n, nonD_n, nonD_s, nonD_i, nonD_b, nonD_l, nonD_t, inD_s, ninD_s, ixD_l, ixD_t, lenD_l, lenD_t, lenD_s, max2_i, min2_i, listL_l, listL_t, tupL_l, tupL_t, int1_i, items_l, items_t, items_s, rng1_i, rng2_i, slD_s, slD_t, slN_l, isi_ss, isi_si, isi_sb, isi_sl, isi_st, isi_sn, isi_is, isi_ii, isi_ib, isi_il, isi_it, isi_in, isi_bs, isi_bi, isi_bb, isi_bl, isi_bt, isi_bn, isi_ls, isi_li, isi_lb, isi_ll, isi_lt, isi_ln, isi_ts, isi_ti, isi_tb, isi_tl, isi_tt, isi_tn, tl_s, tl_i, tl_b, tl_l, tl_t, tl_n, List.getElem?_cons_zero, List.getElem?_cons_succ, List.set_cons_zero, List.set_cons_succ, List.length_cons, List.length_nil, Nat.reduceAdd, Nat.reduceLT, Nat.reduceLeDiff, Nat.zero_lt_succ, D.bl.injEq, D.int.injEq, D.str.injEq, exists_eq_left', exists_eq_left, true_and, and_true, forall_const, Bool.true_and, Bool.and_true, Bool.false_eq_true, Bool.not_true, Bool.not_false, if_true, true_implies, false_implies, eq_self, Bool.true_eq_false, reduceCtorEq, decide_true, decide_eq_true_eq, decide_eq_false_iff_not, Decidable.not_not, beq_self_eq_true, not_true_eq_false, not_false_eq_true, Bool.not_eq_true', Bool.not_eq_false', Option.some.injEq, wipeD, List.map_cons, List.map_nil, List.foldr_cons, List.foldr_nil, tgName, tgTup, tgNames, Option.bind_some, and_self, Ia.f])
      refine ⟨_, rfl, ⟨z + 1, k + 1, by omega, hpx.mp he, rfl⟩, ?_⟩
      show skipN x ps + 1 - (z + 1).toNat < skipN x ps + 1 - z.toNat
      have := hpx.mp he
      omega
    · have hk2 : k = skipN x ps := by
        have : ¬ k < skipN x ps := fun h => hne (hpx.mpr h)
        omega
      subst hk2
      clear e1 hpx hp hne
      rw [w_scons]
      (try simp only [w_var, w_bor, w_kint, w_kstr, w_kbl, w_knon, w_gint, w_gstr, w_bin, w_binN, w_cmp, w_ix, w_chn, chnW_b, w_neg, w_notv, w_one, w_andv, w_orv, w_ite, w_tup, w_lst, w_cal, w_listN, w_tupC, w_intC, w_isi, w_isi2', w_sl, w_slN, w_pn, w_ps, w_nil, w_cons, w_tval, w_tcmp, w_tchn, w_tnot, w_tw, w_tone, w_tyes, w_tand, w_tor, w_seq, w_r1, w_r2, w_r3, w_fld, w_prop, w_enu, w_lrg, w_ltx, w_srt, Fl.f, w_snil, w_ret, w_retN, w_asg, w_own, w_expr, w_if, w_for, w_brk, w_cnt, w_pass, w_raise, w_app2, ownL_o, w_par, w_unp, w_lcAf, w_lcAt, wp_of_some, wp_of_ite, wp_ok, wp_bad, wp_exc, wp_nx, wp_rt, wp_bk, wp_ct, wp_xc, wp_no, getV, borV, Bo.f, BoN.f, Co.f, Bi.f, Tg.t, addD_i, addD_s, addD_t, catD_l, subD_i, mulD_i, mulD_s, mulD_t, repD_l, fdivD_i, modD_i, eqD_s, eqD_i, eqD_b, neD_s, neD_i, neD_b, ltD_i, gtD_i, leD_i, geD_i, isND_n, notND_n, nonD_n, nonD_s, nonD_i, nonD_b, nonD_l, nonD_t, inD_s, ninD_s, ixD_l, ixD_t, lenD_l, lenD_t, lenD_s, max2_i, min2_i, listL_l, listL_t, tupL_l, tupL_t, int1_i, items_l, items_t, items_s, rng1_i, rng2_i, slD_s, slD_t, slN_l, isi_ss, isi_si, isi_sb, isi_sl, isi_st, isi_sn, isi_is, isi_ii, isi_ib, isi_il, isi_it, isi_in, isi_bs, isi_bi, isi_bb, isi_bl, isi_bt, isi_bn, isi_ls, isi_li, isi_lb, isi_ll, isi_lt, isi_ln, isi_ts, isi_ti, isi_tb, isi_tl, isi_tt, isi_tn, tl_s, tl_i, tl_b, tl_l, tl_t, tl_n, List.getElem?_cons_zero, List.getElem?_cons_succ, List.set_cons_zero, List.set_cons_succ, List.length_cons, List.length_nil, Nat.reduceAdd, Nat.reduceLT, Nat.reduceLeDiff, Nat.zero_lt_succ, D.bl.injEq, D.int.injEq, D.str.injEq, exists_eq_left', exists_eq_left, true_and, and_true, forall_const, Bool.true_and, Bool.and_true, Bool.false_eq_true, Bool.not_true, Bool.not_false, if_true, true_implies, false_implies, eq_self, Bool.true_eq_false, reduceCtorEq, decide_true, decide_eq_true_eq, decide_eq_false_iff_not, Decidable.not_not, beq_self_eq_true, not_true_eq_false, not_false_eq_true, Bool.not_eq_true', Bool.not_eq_false', Option.some.injEq, wipeD, List.map_cons, List.map_nil, List.foldr_cons, List.foldr_nil, tgName, tgTup, tgNames, Option.bind_some, and_self])
      refine ⟨by decide, ?_⟩
      rw [w_scons]
      (try simp only [w_var, w_bor, w_kint, w_kstr, w_kbl, w_knon, w_gint, w_gstr, w_bin, w_binN, w_cmp, w_ix, w_chn, chnW_b, w_neg, w_notv, w_one, w_andv, w_orv, w_ite, w_tup, w_lst, w_cal, w_listN, w_tupC, w_intC, w_isi, w_isi2', w_sl, w_slN, w_pn, w_ps, w_nil, w_cons, w_tval, w_tcmp, w_tchn, w_tnot, w_tw, w_tone, w_tyes, w_tand, w_tor, w_seq, w_r1, w_r2, w_r3, w_fld, w_prop, w_enu, w_lrg, w_ltx, w_srt, Fl.f, w_snil, w_ret, w_retN, w_asg, w_own, w_expr, w_if, w_for, w_brk, w_cnt, w_pass, w_raise, w_app2, ownL_o, w_par, w_unp, w_lcAf, w_lcAt, wp_of_some, wp_of_ite, wp_ok, wp_bad, wp_exc, wp_nx, wp_rt, wp_bk, wp_ct, wp_xc, wp_no, getV, borV, Bo.f, BoN.f, Co.f, Bi.f, Tg.t, addD_i, addD_s, addD_t, catD_l, subD_i, mulD_i, mulD_s, mulD_t, repD_l, fdivD_i, modD_i, eqD_s, eqD_i, eqD_b, neD_s, neD_i, neD_b, ltD_i, gtD_i, leD_i, geD_i, isND_n, notND_n, nonD_n, nonD_s, nonD_i, nonD_b, nonD_l, nonD_t, inD_s, ninD_s, ixD_l, ixD_t, lenD_l, lenD_t, lenD_s, max2_i, min2_i, listL_l, listL_t, tupL_l, tupL_t, int1_i, items_l, items_t, items_s, rng1_i, rng2_i, slD_s, slD_t, slN_l, isi_ss, isi_si, isi_sb, isi_sl, isi_st, isi_sn, isi_is, isi_ii, isi_ib, isi_il, isi_it, isi_in, isi_bs, isi_bi, isi_bb, isi_bl, isi_bt, isi_bn, isi_ls, isi_li, isi_lb, isi_ll, isi_lt, isi_ln, isi_ts, isi_ti, isi_tb, isi_tl, isi_tt, isi_tn, tl_s, tl_i, tl_b, tl_l, tl_t, tl_n, List.getElem?_cons_zero, List.getElem?_cons_succ, List.set_cons_zero, List.set_cons_succ, List.length_cons, List.length_nil, Nat.reduceAdd, Nat.reduceLT, Nat.reduceLeDiff, Nat.zero_lt_succ, D.bl.injEq, D.int.injEq, D.str.injEq, exists_eq_left', exists_eq_left, true_and, and_true, forall_const, Bool.true_and, Bool.and_true, Bool.false_eq_true, Bool.not_true, Bool.not_false, if_true, true_implies, false_implies, eq_self, Bool.true_eq_false, reduceCtorEq, decide_true, decide_eq_true_eq, decide_eq_false_iff_not, Decidable.not_not, beq_self_eq_true, not_true_eq_false, not_false_eq_true, Bool.not_eq_true', Bool.not_eq_false', Option.some.injEq, wipeD, List.map_cons, List.map_nil, List.foldr_cons, List.foldr_nil, tgName, tgTup, tgNames, Option.bind_some, and_self, cut_from _ (show 0 ≤ z by omega), cut_to _ (show 0 ≤ z by omega)])
      rw [show z.toNat = skipN x ps by omega, ← List.map_drop, ← List.map_take, ← List.map_append]
      have hlen : (ps.drop (skipN x ps) ++ ps.take (skipN x ps)).length = ps.length := by rw [List.length_append, List.length_drop, List.length_take]; omega
      have htx : ∀ p, p ∈ ps.drop (skipN x ps) ++ ps.take (skipN x ps) → p ∈ ps := fun p hp => by
        rw [List.mem_append] at hp
        exact hp.elim List.mem_of_mem_drop List.mem_of_mem_take
      have htl : (texts (ps.drop (skipN x ps) ++ ps.take (skipN x ps))).flatten.length ≤ 1000 := by
        have : (texts (ps.take (skipN x ps) ++ ps.drop (skipN x ps))).flatten.length ≤ 1000 := by rw [List.take_append_drop]; exact ht
        rw [texts_app, List.flatten_append, List.length_append] at this ⊢
        omega
      have hd : ps.drop (skipN x ps) = p0 :: ps.drop (skipN x ps + 1) := by
        obtain ⟨q1, q2⟩ := List.getElem?_eq_some_iff.mp k3
        rw [List.drop_eq_getElem_cons q1, q2]
      have hdef : joinP ps x = (ps.drop (skipN x ps) ++ ps.take (skipN x ps)).foldl (jstep x) [] := rfl
      rw [hdef]
      have hfst : ∀ p r, ps.drop (skipN x ps) ++ ps.take (skipN x ps) = p :: r → p.2 ≠ x := fun p r e => by
        rw [hd] at e; cases e; exact k4
      generalize ps.drop (skipN x ps) ++ ps.take (skipN x ps) = qs at *
      refine ⟨by (first | omega | with_reducible assumption | (refine LN_le ?_; (try simp only [rot_len, List.length_append, List.length_drop, List.length_take, List.length_map, List.length_cons, List.length_nil, List.length_range, rangeD_len]); omega) | (refine LN_lt ?_; (try simp only [rot_len, List.length_append, List.length_drop, List.length_take, List.length_map, List.length_cons, List.length_nil, List.length_range, rangeD_len]); omega) | (refine big_le ?_ ?_ <;> (try simp only [rot_len, List.length_append, List.length_drop, List.length_take, List.length_map, List.length_cons, List.length_nil, List.length_range, rangeD_len]) <;> omega) | (refine big2 (big_le ?_ ?_) (big_le ?_ ?_) <;> (try simp only [rot_len, List.length_append, List.length_drop, List.length_take, List.length_map, List.length_cons, List.length_nil, List.length_range, rangeD_len]) <;> omega)), ?_⟩
      refine wp_forL (fun items s => ∃ (done todo acc : List (Nat × Wd)) (a b : Option DV), items = todo.map pieceD ∧ qs = done ++ todo ∧ acc = done.foldl (jstep x) [] ∧ acc.length ≤ done.length ∧ (∀ p, p ∈ acc → p.2.length ≤ (texts done).flatten.length) ∧ (acc = [] → done = []) ∧ s = ⟨[some (.im (.lst (ps.map pieceD))), some (.im (.str x)), some (.im (.int z)), some (.own (.lst (acc.map pieceD))), a, b], ⟨0, [], 0⟩⟩) _ _ ⟨[], qs, [], _, _, rfl, rfl, rfl, Nat.le_refl _, (fun p hp => by cases hp), fun _ => rfl, rfl⟩ ?_ ?_
      · rintro d r s ⟨done, todo, acc, a, b, e1, e2, e3, e4, e5, e6, rfl⟩
        cases todo with
        | nil => cases e1
        | cons p todo =>
          obtain ⟨rfl, rfl⟩ := List.cons.inj e1
          have hdl : done.length < qs.length := by rw [e2, List.length_append, List.length_cons]; omega
          have hsum : (texts done).flatten.length + p.2.length ≤ 1000 := by
            rw [e2, texts_app, List.flatten_append, List.length_append] at htl
            have : (texts (p :: todo)).flatten.length = p.2.length + (texts todo).flatten.length := by simp [texts]
            omega
          have hdone : (texts (done ++ [p])).flatten.length = (texts done).flatten.length + p.2.length := by rw [texts_app, List.flatten_append, List.length_append]; simp [texts]
          refine ⟨_, rfl, ?_⟩
          rw [w_scons]
          (try simp only [w_var, w_bor, w_kint, w_kstr, w_kbl, w_knon, w_gint, w_gstr, w_bin, w_binN, w_cmp, w_ix, w_chn, chnW_b, w_neg, w_notv, w_one, w_andv, w_orv, w_ite, w_tup, w_lst, w_cal, w_listN, w_tupC, w_intC, w_isi, w_isi2', w_sl, w_slN, w_pn, w_ps, w_nil, w_cons, w_tval, w_tcmp, w_tchn, w_tnot, w_tw, w_tone, w_tyes, w_tand, w_tor, w_seq, w_r1, w_r2, w_r3, w_fld, w_prop, w_enu, w_lrg, w_ltx, w_srt, Fl.f, w_snil, w_ret, w_retN, w_asg, w_own, w_expr, w_if, w_for, w_brk, w_cnt, w_pass, w_raise, w_app2, ownL_o, w_par, w_unp, w_lcAf, w_lcAt, wp_of_some, wp_of_ite, wp_ok, wp_bad, wp_exc, wp_nx, wp_rt, wp_bk, wp_ct, wp_xc, wp_no, getV, borV, Bo.f, BoN.f, Co.f, Bi.f, Tg.t, addD_i, addD_s, addD_t, catD_l, subD_i, mulD_i, mulD_s, mulD_t, repD_l, fdivD_i, modD_i, eqD_s, eqD_i, eqD_b, neD_s, neD_i, neD_b, ltD_i, gtD_i, leD_i, geD_i, isND_n, notND_n, nonD_n, nonD_s, nonD_i, nonD_b, nonD_l, nonD_t, inD_s, ninD_s, ixD_l, ixD_t, lenD_l, lenD_t, lenD_s, max2_i, min2_i, listL_l, listL_t, tupL_l, tupL_t, int1_i, items_l, items_t, items_s, rng1_i, rng2_i, slD_s, slD_t, slN_l, isi_ss, isi_si, isi_sb, isi_sl, isi_st, isi_sn, isi_is, isi_ii, isi_ib, isi_il, isi_it, isi_in, isi_bs, isi_bi, isi_bb, isi_bl, isi_bt, isi_bn, isi_ls, isi_li, isi_lb, isi_ll, isi_lt, isi_ln, isi_ts, isi_ti, isi_tb, isi_tl, isi_tt, isi_tn, tl_s, tl_i, tl_b, tl_l, tl_t, tl_n, List.getElem?_cons_zero, List.getElem?_cons_succ, List.set_cons_zero, List.set_cons_succ, List.length_cons, List.length_nil, Nat.reduceAdd, Nat.reduceLT, Nat.reduceLeDiff, Nat.zero_lt_succ, D.bl.injEq, D.int.injEq, D.str.injEq, exists_eq_left', exists_eq_left, true_and, and_true, forall_const, Bool.true_and, Bool.and_true, Bool.false_eq_true, Bool.not_true, Bool.not_false, if_true, true_implies, false_implies, eq_self, Bool.true_eq_false, reduceCtorEq, decide_true, decide_eq_true_eq, decide_eq_false_iff_not, Decidable.not_not, beq_self_eq_true, not_true_eq_false, not_false_eq_true, Bool.not_eq_true', Bool.not_eq_false', Option.some.injEq, wipeD, List.map_cons, List.map_nil, List.foldr_cons, List.foldr_nil, tgName, tgTup, tgNames, Option.bind_some, and_self])
          refine And.intro (fun he => ?_) (fun hne => ?_)
          · have hacc : acc ≠ [] := fun q => by
              have := e6 q
              subst this
              exact hfst p todo e2 he
            obtain ⟨ini, q, hq⟩ : ∃ ini q, acc = ini ++ [q] := by
              rcases List.eq_nil_or_concat acc with z | ⟨i, q, z⟩
              · exact absurd z hacc
              · exact ⟨i, q, by rw [z, List.concat_eq_append]⟩
            have hm : acc.map pieceD = ini.map pieceD ++ [.tup [.int (0 + (q.1 : Int)), .str q.2]] := by rw [hq, List.map_append]; rfl
            have hql := e5 q (by rw [hq]; simp)
            rw [hm, w_scons]
            refine wp_setI ?_
            (try simp only [w_var, w_bor, w_kint, w_kstr, w_kbl, w_knon, w_gint, w_gstr, w_bin, w_binN, w_cmp, w_ix, w_chn, chnW_b, w_neg, w_notv, w_one, w_andv, w_orv, w_ite, w_tup, w_lst, w_cal, w_listN, w_tupC, w_intC, w_isi, w_isi2', w_sl, w_slN, w_pn, w_ps, w_nil, w_cons, w_tval, w_tcmp, w_tchn, w_tnot, w_tw, w_tone, w_tyes, w_tand, w_tor, w_seq, w_r1, w_r2, w_r3, w_fld, w_prop, w_enu, w_lrg, w_ltx, w_srt, Fl.f, w_snil, w_ret, w_retN, w_asg, w_own, w_expr, w_if, w_for, w_brk, w_cnt, w_pass, w_raise, w_app2, ownL_o, w_par, w_unp, w_lcAf, w_lcAt, wp_of_some, wp_of_ite, wp_ok, wp_bad, wp_exc, wp_nx, wp_rt, wp_bk, wp_ct, wp_xc, wp_no, getV, borV, Bo.f, BoN.f, Co.f, Bi.f, Tg.t, addD_i, addD_s, addD_t, catD_l, subD_i, mulD_i, mulD_s, mulD_t, repD_l, fdivD_i, modD_i, eqD_s, eqD_i, eqD_b, neD_s, neD_i, neD_b, ltD_i, gtD_i, leD_i, geD_i, isND_n, notND_n, nonD_n, nonD_s, nonD_i, nonD_b, nonD_l, nonD_t, inD_s, ninD_s, ixD_l, ixD_t, lenD_l, lenD_t, lenD_s, max2_i, min2_i, listL_l, listL_t, tupL_l, tupL_t, int1_i, items_l, items_t, items_s, rng1_i, rng2_i, slD_s, slD_t, slN_l, isi_ss, isi_si, isi_sb, isi_sl, isi_st, isi_sn, isi_is, isi_ii, isi_ib, isi_il, isi_it, isi_in, isi_bs, isi_bi, isi_bb, isi_bl, isi_bt, isi_bn, isi_ls, isi_li, isi_lb, isi_ll, isi_lt, isi_ln, isi_ts, isi_ti, isi_tb, isi_tl, isi_tt, isi_tn, tl_s, tl_i, tl_b, tl_l, tl_t, tl_n, List.getElem?_cons_zero, List.getElem?_cons_succ, List.set_cons_zero, List.set_cons_succ, List.length_cons, List.length_nil, Nat.reduceAdd, Nat.reduceLT, Nat.reduceLeDiff, Nat.zero_lt_succ, D.bl.injEq, D.int.injEq, D.str.injEq, exists_eq_left', exists_eq_left, true_and, and_true, forall_const, Bool.true_and, Bool.and_true, Bool.false_eq_true, Bool.not_true, Bool.not_false, if_true, true_implies, false_implies, eq_self, Bool.true_eq_false, reduceCtorEq, decide_true, decide_eq_true_eq, decide_eq_false_iff_not, Decidable.not_not, beq_self_eq_true, not_true_eq_false, not_false_eq_true, Bool.not_eq_true', Bool.not_eq_false', Option.some.injEq, wipeD, List.map_cons, List.map_nil, List.foldr_cons, List.foldr_nil, tgName, tgTup, tgNames, Option.bind_some, and_self, atI_last, atI2_0, atI2_1])
            refine ⟨by (first | omega | with_reducible assumption | (refine LN_le ?_; (try simp only [rot_len, List.length_append, List.length_drop, List.length_take, List.length_map, List.length_cons, List.length_nil, List.length_range, rangeD_len]); omega) | (refine LN_lt ?_; (try simp only [rot_len, List.length_append, List.length_drop, List.length_take, List.length_map, List.length_cons, List.length_nil, List.length_range, rangeD_len]); omega) | (refine big_le ?_ ?_ <;> (try simp only [rot_len, List.length_append, List.length_drop, List.length_take, List.length_map, List.length_cons, List.length_nil, List.length_range, rangeD_len]) <;> omega) | (refine big2 (big_le ?_ ?_) (big_le ?_ ?_) <;> (try simp only [rot_len, List.length_append, List.length_drop, List.length_take, List.length_map, List.length_cons, List.length_nil, List.length_range, rangeD_len]) <;> omega)), by decide, -1, _, _, rfl, rfl, ixN_last _ _, ?_⟩
            refine ⟨done ++ [p], todo, ini ++ [(q.1, q.2 ++ p.2)], some (.im (.int (0 + (p.1 : Int)))), some (.im (.str p.2)), rfl, by rw [e2]; simp, ?_, ?_, ?_, ?_, ?_⟩
            · rw [List.foldl_append, ← e3]
              show _ = jstep x acc p
              unfold jstep
              rw [if_pos he, hq]
              simp
            · rw [hq] at e4
              simp only [List.length_append, List.length_cons, List.length_nil] at e4 ⊢
              omega
            · intro p' hp'
              rw [hdone]
              rw [List.mem_append] at hp'
              rcases hp' with hp' | hp'
              · have := e5 p' (by rw [hq]; simp [hp']); omega
              · have : p' = (q.1, q.2 ++ p.2) := by simpa using hp'
                subst this
                rw [List.length_append]; omega
            · intro q'; simp at q'
            · have : (ini.map pieceD ++ [D.tup [.int (0 + (q.1 : Int)), .str q.2]]).set (ini.map pieceD).length (D.tup [.int (0 + (q.1 : Int)), .str (q.2 ++ p.2)]) = (ini ++ [(q.1, q.2 ++ p.2)]).map pieceD := by
                rw [List.set_append_right _ _ (Nat.le_refl _), Nat.sub_self, List.map_append]; rfl
              rw [this]
          · rw [w_scons]
            (try simp only [w_var, w_bor, w_kint, w_kstr, w_kbl, w_knon, w_gint, w_gstr, w_bin, w_binN, w_cmp, w_ix, w_chn, chnW_b, w_neg, w_notv, w_one, w_andv, w_orv, w_ite, w_tup, w_lst, w_cal, w_listN, w_tupC, w_intC, w_isi, w_isi2', w_sl, w_slN, w_pn, w_ps, w_nil, w_cons, w_tval, w_tcmp, w_tchn, w_tnot, w_tw, w_tone, w_tyes, w_tand, w_tor, w_seq, w_r1, w_r2, w_r3, w_fld, w_prop, w_enu, w_lrg, w_ltx, w_srt, Fl.f, w_snil, w_ret, w_retN, w_asg, w_own, w_expr, w_if, w_for, w_brk, w_cnt, w_pass, w_raise, w_app2, ownL_o, w_par, w_unp, w_lcAf, w_lcAt, wp_of_some, wp_of_ite, wp_ok, wp_bad, wp_exc, wp_nx, wp_rt, wp_bk, wp_ct, wp_xc, wp_no, getV, borV, Bo.f, BoN.f, Co.f, Bi.f, Tg.t, addD_i, addD_s, addD_t, catD_l, subD_i, mulD_i, mulD_s, mulD_t, repD_l, fdivD_i, modD_i, eqD_s, eqD_i, eqD_b, neD_s, neD_i, neD_b, ltD_i, gtD_i, leD_i, geD_i, isND_n, notND_n, nonD_n, nonD_s, nonD_i, nonD_b, nonD_l, nonD_t, inD_s, ninD_s, ixD_l, ixD_t, lenD_l, lenD_t, lenD_s, max2_i, min2_i, listL_l, listL_t, tupL_l, tupL_t, int1_i, items_l, items_t, items_s, rng1_i, rng2_i, slD_s, slD_t, slN_l, isi_ss, isi_si, isi_sb, isi_sl, isi_st, isi_sn, isi_is, isi_ii, isi_ib, isi_il, isi_it, isi_in, isi_bs, isi_bi, isi_bb, isi_bl, isi_bt, isi_bn, isi_ls, isi_li, isi_lb, isi_ll, isi_lt, isi_ln, isi_ts, isi_ti, isi_tb, isi_tl, isi_tt, isi_tn, tl_s, tl_i, tl_b, tl_l, tl_t, tl_n, List.getElem?_cons_zero, List.getElem?_cons_succ, List.set_cons_zero, List.set_cons_succ, List.length_cons, List.length_nil, Nat.reduceAdd, Nat.reduceLT, Nat.reduceLeDiff, Nat.zero_lt_succ, D.bl.injEq, D.int.injEq, D.str.injEq, exists_eq_left', exists_eq_left, true_and, and_true, forall_const, Bool.true_and, Bool.and_true, Bool.false_eq_true, Bool.not_true, Bool.not_false, if_true, true_implies, false_implies, eq_self, Bool.true_eq_false, reduceCtorEq, decide_true, decide_eq_true_eq, decide_eq_false_iff_not, Decidable.not_not, beq_self_eq_true, not_true_eq_false, not_false_eq_true, Bool.not_eq_true', Bool.not_eq_false', Option.some.injEq, wipeD, List.map_cons, List.map_nil, List.foldr_cons, List.foldr_nil, tgName, tgTup, tgNames, Option.bind_some, and_self])
            refine ⟨by decide, by (first | omega | with_reducible assumption | (refine LN_le ?_; (try simp only [rot_len, List.length_append, List.length_drop, List.length_take, List.length_map, List.length_cons, List.length_nil, List.length_range, rangeD_len]); omega) | (refine LN_lt ?_; (try simp only [rot_len, List.length_append, List.length_drop, List.length_take, List.length_map, List.length_cons, List.length_nil, List.length_range, rangeD_len]); omega) | (refine big_le ?_ ?_ <;> (try simp only [rot_len, List.length_append, List.length_drop, List.length_take, List.length_map, List.length_cons, List.length_nil, List.length_range, rangeD_len]) <;> omega) | (refine big2 (big_le ?_ ?_) (big_le ?_ ?_) <;> (try simp only [rot_len, List.length_append, List.length_drop, List.length_take, List.length_map, List.length_cons, List.length_nil, List.length_range, rangeD_len]) <;> omega)), ?_⟩
            refine ⟨done ++ [p], todo, acc ++ [p], some (.im (.int (0 + (p.1 : Int)))), some (.im (.str p.2)), rfl, by rw [e2]; simp, ?_, ?_, ?_, ?_, ?_⟩
            · rw [List.foldl_append, ← e3]
              show _ = jstep x acc p
              unfold jstep
              rw [if_neg hne]
            · simp only [List.length_append, List.length_cons, List.length_nil]; omega
            · intro p' hp'
              rw [hdone]
              rw [List.mem_append] at hp'
              rcases hp' with hp' | hp'
              · have := e5 p' hp'; omega
              · have : p' = p := by simpa using hp'
                subst this; omega
            · intro q'; simp at q'
            · rw [List.map_append]; rfl
      · rintro s ⟨done, todo, acc, a, b, e1, e2, e3, e4, e5, e6, rfl⟩
        cases todo with
        | cons p todo => cases e1
        | nil =>
          rw [List.append_nil] at e2
          subst e2
          (try simp only [w_var, w_bor, w_kint, w_kstr, w_kbl, w_knon, w_gint, w_gstr, w_bin, w_binN, w_cmp, w_ix, w_chn, chnW_b, w_neg, w_notv, w_one, w_andv, w_orv, w_ite, w_tup, w_lst, w_cal, w_listN, w_tupC, w_intC, w_isi, w_isi2', w_sl, w_slN, w_pn, w_ps, w_nil, w_cons, w_tval, w_tcmp, w_tchn, w_tnot, w_tw, w_tone, w_tyes, w_tand, w_tor, w_seq, w_r1, w_r2, w_r3, w_fld, w_prop, w_enu, w_lrg, w_ltx, w_srt, Fl.f, w_snil, w_ret, w_retN, w_asg, w_own, w_expr, w_if, w_for, w_brk, w_cnt, w_pass, w_raise, w_app2, ownL_o, w_par, w_unp, w_lcAf, w_lcAt, wp_of_some, wp_of_ite, wp_ok, wp_bad, wp_exc, wp_nx, wp_rt, wp_bk, wp_ct, wp_xc, wp_no, getV, borV, Bo.f, BoN.f, Co.f, Bi.f, Tg.t, addD_i, addD_s, addD_t, catD_l, subD_i, mulD_i, mulD_s, mulD_t, repD_l, fdivD_i, modD_i, eqD_s, eqD_i, eqD_b, neD_s, neD_i, neD_b, ltD_i, gtD_i, leD_i, geD_i, isND_n, notND_n, nonD_n, nonD_s, nonD_i, nonD_b, nonD_l, nonD_t, inD_s, ninD_s, ixD_l, ixD_t, lenD_l, lenD_t, lenD_s, max2_i, min2_i, listL_l, listL_t, tupL_l, tupL_t, int1_i, items_l, items_t, items_s, rng1_i, rng2_i, slD_s, slD_t, slN_l, isi_ss, isi_si, isi_sb, isi_sl, isi_st, isi_sn, isi_is, isi_ii, isi_ib, isi_il, isi_it, isi_in, isi_bs, isi_bi, isi_bb, isi_bl, isi_bt, isi_bn, isi_ls, isi_li, isi_lb, isi_ll, isi_lt, isi_ln, isi_ts, isi_ti, isi_tb, isi_tl, isi_tt, isi_tn, tl_s, tl_i, tl_b, tl_l, tl_t, tl_n, List.getElem?_cons_zero, List.getElem?_cons_succ, List.set_cons_zero, List.set_cons_succ, List.length_cons, List.length_nil, Nat.reduceAdd, Nat.reduceLT, Nat.reduceLeDiff, Nat.zero_lt_succ, D.bl.injEq, D.int.injEq, D.str.injEq, exists_eq_left', exists_eq_left, true_and, and_true, forall_const, Bool.true_and, Bool.and_true, Bool.false_eq_true, Bool.not_true, Bool.not_false, if_true, true_implies, false_implies, eq_self, Bool.true_eq_false, reduceCtorEq, decide_true, decide_eq_true_eq, decide_eq_false_iff_not, Decidable.not_not, beq_self_eq_true, not_true_eq_false, not_false_eq_true, Bool.not_eq_true', Bool.not_eq_false', Option.some.injEq, wipeD, List.map_cons, List.map_nil, List.foldr_cons, List.foldr_nil, tgName, tgTup, tgNames, Option.bind_some, and_self])
          exact ⟨_, by rw [e3]⟩
def oddD (t : Wd) : D := .tup [.int ((t.length : Nat) : Int), .str t]
theorem lex_ii (a b : Int) (l m : List (Int ⊕ List Nat)) : PyProof.Rows.lexLt PyProof.Rows.itemOrd (.inl a :: l) (.inl b :: m) = (decide (a < b) || (decide (a = b) && PyProof.Rows.lexLt PyProof.Rows.itemOrd l m)) := by
  rw [PyProof.Rows.lex_cons]
  show (decide (a < b) || (!decide (b < a) && _)) = _
  by_cases h1 : a < b
  · simp [h1]
  · by_cases h2 : b < a
    · have h3 : ¬ a = b := by omega
      simp [h1, h2, h3]
    · have h3 : a = b := by omega
      subst h3; simp
theorem dlt_odd (a b : Wd) : dlt (oddD a) (oddD b) = llt a b := by
  unfold dlt PySem.W.dataLt oddD
  simp only [toPy, toPys, PySem.W.keyToks, PySem.W.keyToksAll, S_cps, List.cons_append, List.nil_append]
  rw [lex_ii, lex_ii, lex_ii]
  have : PyProof.Rows.lexLt PyProof.Rows.itemOrd [.inr a, .inl 0] [.inr b, .inl 0] = wlt a b := by
    unfold wlt
    rw [PyProof.Rows.lex_cons, PyProof.Rows.lex_cons]
    simp [PyProof.Rows.lexLt, PyProof.Rows.itemLt]
  rw [this, show decide (((a.length : Nat) : Int) = ((b.length : Nat) : Int)) = decide (a.length = b.length) from decide_eq_decide.mpr (by omega), show decide (((a.length : Nat) : Int) < ((b.length : Nat) : Int)) = decide (a.length < b.length) from decide_eq_decide.mpr (by omega)]
  unfold llt
  rfl
def minO (x : Wd) (xs : List Wd) : Wd := xs.foldl (fun a y => if llt y a then y else a) x
theorem minF_odd (x : Wd) (xs : List Wd) : minF (oddD x) (xs.map oddD) = oddD (minO x xs) := by
  unfold minF minO
  induction xs generalizing x with
  | nil => rfl
  | cons y r ih =>
    simp only [List.map_cons, List.foldl_cons, dlt_odd]
    split <;> exact ih _
theorem minO_mem (x : Wd) (xs : List Wd) : minO x xs ∈ x :: xs := by
  unfold minO
  induction xs generalizing x with
  | nil => simp
  | cons y r ih =>
    simp only [List.foldl_cons]
    split
    · have := ih y; simp at this ⊢; rcases this with h | h <;> simp [h]
    · have := ih x; simp at this ⊢; rcases this with h | h <;> simp [h]
theorem lle_total (a b : Wd) : lle a b ∨ lle b a := by
  unfold lle
  cases h : llt b a with
  | false => exact .inl rfl
  | true =>
    right
    cases h2 : llt a b with
    | false => rfl
    | true => have := llt_trans h h2; rw [llt_irrefl] at this; cases this
theorem minO_le (x : Wd) (xs : List Wd) : ∀ y, y ∈ x :: xs → lle (minO x xs) y := by
  unfold minO
  induction xs generalizing x with
  | nil => intro y hy; simp at hy; subst hy; exact lle_refl _
  | cons z r ih =>
    intro y hy
    simp only [List.foldl_cons]
    split
    · rename_i h
      rcases List.mem_cons.mp hy with rfl | hy
      · exact lle_trans (ih z z (by simp)) (lle_of_lt h)
      · exact ih z y hy
    · rename_i h
      have hxz : lle x z := by unfold lle; simpa using h
      rcases List.mem_cons.mp hy with rfl | hy
      · exact ih y y (by simp)
      · rcases List.mem_cons.mp hy with rfl | hy
        · exact lle_trans (ih x x (by simp)) hxz
        · exact ih x y (by simp [hy])
theorem plns_odd (n : Nat) : ∀ xs : List Wd, plns (n + 2) (xs.map oddD) = true
  | [] => by simp [plns]
  | x :: r => by
    rw [List.map_cons]
    have := plns_odd n r
    simp [plns, pln, oddD] at this ⊢
    exact this
theorem likes_odd (xs : List Wd) : likes (xs.map oddD) = true := by
  unfold likes
  rw [List.all_eq_true]
  intro a ha
  obtain ⟨x, _, rfl⟩ := List.mem_map.mp ha
  rw [Bool.and_eq_true, List.all_eq_true]
  refine ⟨rfl, fun b hb => ?_⟩
  obtain ⟨y, _, rfl⟩ := List.mem_map.mp hb
  simp [oddD, toPy, toPys, PySem.W.alike, PySem.W.alikeAll]
theorem minL_odd (x : Wd) (xs : List Wd) : minL [.lst (oddD x :: xs.map oddD)] = some (oddD (minO x xs)) := by
  unfold minL
  dsimp only
  rw [← List.map_cons, plns_odd 6, likes_odd, minF_odd]
  rfl
theorem semP_ex {N : List Str} {n : Nat} {g : DS → Rst} {ds : List D} {Q : D → Prop} (hl : ds.length = n) (h : (g ⟨envP N ds, ⟨0, [], 0⟩⟩).wp (fun _ => False) (fun r => ∃ d s, r = .rt d s ∧ Q d)) : ∃ d, semP N n g ds = .ok d ∧ Q d := by
  unfold semP
  rw [if_pos hl]
  cases z : g ⟨envP N ds, ⟨0, [], 0⟩⟩ <;> rw [z] at h
  case nx s => exact h.elim
  case bad => exact h.elim
  all_goals (obtain ⟨d, s, e, q⟩ := h; cases e)
  exact ⟨_, rfl, q⟩
theorem simple_all {w : Wd} (h : Simple w) : ((List.range (w.length - 1)).all fun i => decide (rot w (i + 1) ≠ w)) = true := by
  rw [List.all_eq_true]
  intro i hi
  have hi : i < w.length - 1 := by simpa using hi
  exact decide_eq_true (h (i + 1) (by omega) (by omega))
theorem simple_of {w : Wd} (h : ((List.range (w.length - 1)).all fun i => decide (rot w (i + 1) ≠ w)) = true) : Simple w := fun i h1 h2 => by
  rw [List.all_eq_true] at h
  have := h (i - 1) (by simp; omega)
  rw [show i - 1 + 1 = i by omega] at this
  exact of_decide_eq_true this
theorem texts_len_le (ps : List (Nat × Wd)) : ∀ p, p ∈ ps → p.2.length ≤ (texts ps).flatten.length := by
  induction ps with
  | nil => intro p hp; cases hp
  | cons q r ih =>
    intro p hp
    have e : (texts (q :: r)).flatten.length = q.2.length + (texts r).flatten.length := by simp [texts]
    rcases List.mem_cons.mp hp with rfl | hp
    · omega
    · have := ih p hp; omega
theorem enuArgs_str (w : Wd) : enuArgs [.str w] = some ((List.range w.length).map fun i => .tup [.int (0 + (i : Int)), .str [w.getD i 0]]) := by
  show some (pairsD 0 (w.map fun c => .str [c])) = _
  congr 1
  apply List.ext_getElem?
  intro i
  rw [List.getElem?_map]
  by_cases hi : i < w.length
  · rw [pairsD_get (w.map fun c => .str [c]) 0 i (.str [w.getD i 0]) (by rw [List.getElem?_map, List.getElem?_eq_getElem hi]; simp [List.getD_eq_getElem?_getD, List.getElem?_eq_getElem hi]), List.getElem?_range hi]
    rfl
  · rw [List.getElem?_eq_none (by rw [pairsD_len, List.length_map]; omega), List.getElem?_eq_none (by simp; omega)]; rfl
theorem v_cut {w : Wd} (hw : isL 4 w) (h0 : 1 ≤ w.length) (h1 : w.length ≤ 99) (ho : oddW w) (hs : Simple w) : ∃ d, sem_cut [.str w] = .ok d ∧ ∃ a : Nat, d = .int (0 + (a : Int)) ∧ a < w.length ∧ Sgl (rot w a) := by
  have h60 : w.length < 10 ^ 60 := by
    have : (10 : Nat) ^ 60 > 100000 := by decide
    omega
  refine semP_ex rfl ?_
  unfold il_cut
  show Rst.wp (evB _ _ ⟨[some (.im (.str w)), none, none, none, none, none], ⟨0, [], 0⟩⟩) _ _
  rw [w_scons]
  (try simp only [w_var, w_bor, w_kint, w_kstr, w_kbl, w_knon, w_gint, w_gstr, w_bin, w_binN, w_cmp, w_ix, w_chn, chnW_b, w_neg, w_notv, w_one, w_andv, w_orv, w_ite, w_tup, w_lst, w_cal, w_listN, w_tupC, w_intC, w_isi, w_isi2', w_sl, w_slN, w_pn, w_ps, w_nil, w_cons, w_tval, w_tcmp, w_tchn, w_tnot, w_tw, w_tone, w_tyes, w_tand, w_tor, w_seq, w_r1, w_r2, w_r3, w_fld, w_prop, w_enu, w_lrg, w_ltx, w_srt, Fl.f, w_snil, w_ret, w_retN, w_asg, w_own, w_expr, w_if, w_for, w_brk, w_cnt, w_pass, w_raise, w_app2, ownL_o, w_par, w_unp, w_lcAf, w_lcAt, wp_of_some, wp_of_ite, wp_ok, wp_bad, wp_exc, wp_nx, wp_rt, wp_bk, wp_ct, wp_xc, wp_no, getV, borV, Bo.f, BoN.f, Co.f, Bi.f, Tg.t, addD_i, addD_s, addD_t, catD_l, subD_i, mulD_i, mulD_s, mulD_t, repD_l, fdivD_i, modD_i, eqD_s, eqD_i, eqD_b, neD_s, neD_i, neD_b, ltD_i, gtD_i, leD_i, geD_i, isND_n, notND_n, nonD_n, nonD_s, nonD_i, nonD_b, nonD_l, nonD_t, inD_s, ninD_s, ixD_l, ixD_t, lenD_l, lenD_t, lenD_s, max2_i, min2_i, listL_l, listL_t, tupL_l, tupL_t, int1_i, items_l, items_t, items_s, rng1_i, rng2_i, slD_s, slD_t, slN_l, isi_ss, isi_si, isi_sb, isi_sl, isi_st, isi_sn, isi_is, isi_ii, isi_ib, isi_il, isi_it, isi_in, isi_bs, isi_bi, isi_bb, isi_bl, isi_bt, isi_bn, isi_ls, isi_li, isi_lb, isi_ll, isi_lt, isi_ln, isi_ts, isi_ti, isi_tb, isi_tl, isi_tt, isi_tn, tl_s, tl_i, tl_b, tl_l, tl_t, tl_n, List.getElem?_cons_zero, List.getElem?_cons_succ, List.set_cons_zero, List.set_cons_succ, List.length_cons, List.length_nil, Nat.reduceAdd, Nat.reduceLT, Nat.reduceLeDiff, Nat.zero_lt_succ, D.bl.injEq, D.int.injEq, D.str.injEq, exists_eq_left', exists_eq_left, true_and, and_true, forall_const, Bool.true_and, Bool.and_true, Bool.false_eq_true, Bool.not_true, Bool.not_false, if_true, true_implies, false_implies, eq_self, Bool.true_eq_false, reduceCtorEq, decide_true, decide_eq_true_eq, decide_eq_false_iff_not, Decidable.not_not, beq_self_eq_true, not_true_eq_false, not_false_eq_true, Bool.not_eq_true', Bool.not_eq_false', Option.some.injEq, wipeD, List.map_cons, List.map_nil, List.foldr_cons, List.foldr_nil, tgName, tgTup, tgNames, Option.bind_some, and_self])
  refine wp_call rfl ?_
  (try simp only [w_var, w_bor, w_kint, w_kstr, w_kbl, w_knon, w_gint, w_gstr, w_bin, w_binN, w_cmp, w_ix, w_chn, chnW_b, w_neg, w_notv, w_one, w_andv, w_orv, w_ite, w_tup, w_lst, w_cal, w_listN, w_tupC, w_intC, w_isi, w_isi2', w_sl, w_slN, w_pn, w_ps, w_nil, w_cons, w_tval, w_tcmp, w_tchn, w_tnot, w_tw, w_tone, w_tyes, w_tand, w_tor, w_seq, w_r1, w_r2, w_r3, w_fld, w_prop, w_enu, w_lrg, w_ltx, w_srt, Fl.f, w_snil, w_ret, w_retN, w_asg, w_own, w_expr, w_if, w_for, w_brk, w_cnt, w_pass, w_raise, w_app2, ownL_o, w_par, w_unp, w_lcAf, w_lcAt, wp_of_some, wp_of_ite, wp_ok, wp_bad, wp_exc, wp_nx, wp_rt, wp_bk, wp_ct, wp_xc, wp_no, getV, borV, Bo.f, BoN.f, Co.f, Bi.f, Tg.t, addD_i, addD_s, addD_t, catD_l, subD_i, mulD_i, mulD_s, mulD_t, repD_l, fdivD_i, modD_i, eqD_s, eqD_i, eqD_b, neD_s, neD_i, neD_b, ltD_i, gtD_i, leD_i, geD_i, isND_n, notND_n, nonD_n, nonD_s, nonD_i, nonD_b, nonD_l, nonD_t, inD_s, ninD_s, ixD_l, ixD_t, lenD_l, lenD_t, lenD_s, max2_i, min2_i, listL_l, listL_t, tupL_l, tupL_t, int1_i, items_l, items_t, items_s, rng1_i, rng2_i, slD_s, slD_t, slN_l, isi_ss, isi_si, isi_sb, isi_sl, isi_st, isi_sn, isi_is, isi_ii, isi_ib, isi_il, isi_it, isi_in, isi_bs, isi_bi, isi_bb, isi_bl, isi_bt, isi_bn, isi_ls, isi_li, isi_lb, isi_ll, isi_lt, isi_ln, isi_ts, isi_ti, isi_tb, isi_tl, isi_tt, isi_tn, tl_s, tl_i, tl_b, tl_l, tl_t, tl_n, List.getElem?_cons_zero, List.getElem?_cons_succ, List.set_cons_zero, List.set_cons_succ, List.length_cons, List.length_nil, Nat.reduceAdd, Nat.reduceLT, Nat.reduceLeDiff, Nat.zero_lt_succ, D.bl.injEq, D.int.injEq, D.str.injEq, exists_eq_left', exists_eq_left, true_and, and_true, forall_const, Bool.true_and, Bool.and_true, Bool.false_eq_true, Bool.not_true, Bool.not_false, if_true, true_implies, false_implies, eq_self, Bool.true_eq_false, reduceCtorEq, decide_true, decide_eq_true_eq, decide_eq_false_iff_not, Decidable.not_not, beq_self_eq_true, not_true_eq_false, not_false_eq_true, Bool.not_eq_true', Bool.not_eq_false', Option.some.injEq, wipeD, List.map_cons, List.map_nil, List.foldr_cons, List.foldr_nil, tgName, tgTup, tgNames, Option.bind_some, and_self])
  refine ⟨_, v_check hw h0 h1, ?_⟩
  rw [w_scons]
  (try simp only [w_var, w_bor, w_kint, w_kstr, w_kbl, w_knon, w_gint, w_gstr, w_bin, w_binN, w_cmp, w_ix, w_chn, chnW_b, w_neg, w_notv, w_one, w_andv, w_orv, w_ite, w_tup, w_lst, w_cal, w_listN, w_tupC, w_intC, w_isi, w_isi2', w_sl, w_slN, w_pn, w_ps, w_nil, w_cons, w_tval, w_tcmp, w_tchn, w_tnot, w_tw, w_tone, w_tyes, w_tand, w_tor, w_seq, w_r1, w_r2, w_r3, w_fld, w_prop, w_enu, w_lrg, w_ltx, w_srt, Fl.f, w_snil, w_ret, w_retN, w_asg, w_own, w_expr, w_if, w_for, w_brk, w_cnt, w_pass, w_raise, w_app2, ownL_o, w_par, w_unp, w_lcAf, w_lcAt, wp_of_some, wp_of_ite, wp_ok, wp_bad, wp_exc, wp_nx, wp_rt, wp_bk, wp_ct, wp_xc, wp_no, getV, borV, Bo.f, BoN.f, Co.f, Bi.f, Tg.t, addD_i, addD_s, addD_t, catD_l, subD_i, mulD_i, mulD_s, mulD_t, repD_l, fdivD_i, modD_i, eqD_s, eqD_i, eqD_b, neD_s, neD_i, neD_b, ltD_i, gtD_i, leD_i, geD_i, isND_n, notND_n, nonD_n, nonD_s, nonD_i, nonD_b, nonD_l, nonD_t, inD_s, ninD_s, ixD_l, ixD_t, lenD_l, lenD_t, lenD_s, max2_i, min2_i, listL_l, listL_t, tupL_l, tupL_t, int1_i, items_l, items_t, items_s, rng1_i, rng2_i, slD_s, slD_t, slN_l, isi_ss, isi_si, isi_sb, isi_sl, isi_st, isi_sn, isi_is, isi_ii, isi_ib, isi_il, isi_it, isi_in, isi_bs, isi_bi, isi_bb, isi_bl, isi_bt, isi_bn, isi_ls, isi_li, isi_lb, isi_ll, isi_lt, isi_ln, isi_ts, isi_ti, isi_tb, isi_tl, isi_tt, isi_tn, tl_s, tl_i, tl_b, tl_l, tl_t, tl_n, List.getElem?_cons_zero, List.getElem?_cons_succ, List.set_cons_zero, List.set_cons_succ, List.length_cons, List.length_nil, Nat.reduceAdd, Nat.reduceLT, Nat.reduceLeDiff, Nat.zero_lt_succ, D.bl.injEq, D.int.injEq, D.str.injEq, exists_eq_left', exists_eq_left, true_and, and_true, forall_const, Bool.true_and, Bool.and_true, Bool.false_eq_true, Bool.not_true, Bool.not_false, if_true, true_implies, false_implies, eq_self, Bool.true_eq_false, reduceCtorEq, decide_true, decide_eq_true_eq, decide_eq_false_iff_not, Decidable.not_not, beq_self_eq_true, not_true_eq_false, not_false_eq_true, Bool.not_eq_true', Bool.not_eq_false', Option.some.injEq, wipeD, List.map_cons, List.map_nil, List.foldr_cons, List.foldr_nil, tgName, tgTup, tgNames, Option.bind_some, and_self])
  refine ⟨by (first | omega | with_reducible assumption | (refine LN_le ?_; (try simp only [rot_len, List.length_append, List.length_drop, List.length_take, List.length_map, List.length_cons, List.length_nil, List.length_range, rangeD_len]); omega) | (refine LN_lt ?_; (try simp only [rot_len, List.length_append, List.length_drop, List.length_take, List.length_map, List.length_cons, List.length_nil, List.length_range, rangeD_len]); omega) | (refine big_le ?_ ?_ <;> (try simp only [rot_len, List.length_append, List.length_drop, List.length_take, List.length_map, List.length_cons, List.length_nil, List.length_range, rangeD_len]) <;> omega) | (refine big2 (big_le ?_ ?_) (big_le ?_ ?_) <;> (try simp only [rot_len, List.length_append, List.length_drop, List.length_take, List.length_map, List.length_cons, List.length_nil, List.length_range, rangeD_len]) <;> omega)), by decide, ?_⟩
  have hodd : ¬ ((w.length : Nat) : Int) % 2 = 0 := by unfold oddW at ho; omega
  refine And.intro (fun _ => ?_) (fun h => absurd h hodd)
  refine wp_call rfl ?_
  (try simp only [w_var, w_bor, w_kint, w_kstr, w_kbl, w_knon, w_gint, w_gstr, w_bin, w_binN, w_cmp, w_ix, w_chn, chnW_b, w_neg, w_notv, w_one, w_andv, w_orv, w_ite, w_tup, w_lst, w_cal, w_listN, w_tupC, w_intC, w_isi, w_isi2', w_sl, w_slN, w_pn, w_ps, w_nil, w_cons, w_tval, w_tcmp, w_tchn, w_tnot, w_tw, w_tone, w_tyes, w_tand, w_tor, w_seq, w_r1, w_r2, w_r3, w_fld, w_prop, w_enu, w_lrg, w_ltx, w_srt, Fl.f, w_snil, w_ret, w_retN, w_asg, w_own, w_expr, w_if, w_for, w_brk, w_cnt, w_pass, w_raise, w_app2, ownL_o, w_par, w_unp, w_lcAf, w_lcAt, wp_of_some, wp_of_ite, wp_ok, wp_bad, wp_exc, wp_nx, wp_rt, wp_bk, wp_ct, wp_xc, wp_no, getV, borV, Bo.f, BoN.f, Co.f, Bi.f, Tg.t, addD_i, addD_s, addD_t, catD_l, subD_i, mulD_i, mulD_s, mulD_t, repD_l, fdivD_i, modD_i, eqD_s, eqD_i, eqD_b, neD_s, neD_i, neD_b, ltD_i, gtD_i, leD_i, geD_i, isND_n, notND_n, nonD_n, nonD_s, nonD_i, nonD_b, nonD_l, nonD_t, inD_s, ninD_s, ixD_l, ixD_t, lenD_l, lenD_t, lenD_s, max2_i, min2_i, listL_l, listL_t, tupL_l, tupL_t, int1_i, items_l, items_t, items_s, rng1_i, rng2_i, slD_s, slD_t, slN_l, isi_ss, isi_si, isi_sb, isi_sl, isi_st, isi_sn, isi_is, isi_ii, isi_ib, isi_il, isi_it, isi_in, isi_bs, isi_bi, isi_bb, isi_bl, isi_bt, isi_bn, isi_ls, isi_li, isi_lb, isi_ll, isi_lt, isi_ln, isi_ts, isi_ti, isi_tb, isi_tl, isi_tt, isi_tn, tl_s, tl_i, tl_b, tl_l, tl_t, tl_n, List.getElem?_cons_zero, List.getElem?_cons_succ, List.set_cons_zero, List.set_cons_succ, List.length_cons, List.length_nil, Nat.reduceAdd, Nat.reduceLT, Nat.reduceLeDiff, Nat.zero_lt_succ, D.bl.injEq, D.int.injEq, D.str.injEq, exists_eq_left', exists_eq_left, true_and, and_true, forall_const, Bool.true_and, Bool.and_true, Bool.false_eq_true, Bool.not_true, Bool.not_false, if_true, true_implies, false_implies, eq_self, Bool.true_eq_false, reduceCtorEq, decide_true, decide_eq_true_eq, decide_eq_false_iff_not, Decidable.not_not, beq_self_eq_true, not_true_eq_false, not_false_eq_true, Bool.not_eq_true', Bool.not_eq_false', Option.some.injEq, wipeD, List.map_cons, List.map_nil, List.foldr_cons, List.foldr_nil, tgName, tgTup, tgNames, Option.bind_some, and_self])
  refine ⟨_, v_is_simple hw h0 h1, _, rfl, ?_⟩
  rw [simple_all hs]
  (try simp only [w_var, w_bor, w_kint, w_kstr, w_kbl, w_knon, w_gint, w_gstr, w_bin, w_binN, w_cmp, w_ix, w_chn, chnW_b, w_neg, w_notv, w_one, w_andv, w_orv, w_ite, w_tup, w_lst, w_cal, w_listN, w_tupC, w_intC, w_isi, w_isi2', w_sl, w_slN, w_pn, w_ps, w_nil, w_cons, w_tval, w_tcmp, w_tchn, w_tnot, w_tw, w_tone, w_tyes, w_tand, w_tor, w_seq, w_r1, w_r2, w_r3, w_fld, w_prop, w_enu, w_lrg, w_ltx, w_srt, Fl.f, w_snil, w_ret, w_retN, w_asg, w_own, w_expr, w_if, w_for, w_brk, w_cnt, w_pass, w_raise, w_app2, ownL_o, w_par, w_unp, w_lcAf, w_lcAt, wp_of_some, wp_of_ite, wp_ok, wp_bad, wp_exc, wp_nx, wp_rt, wp_bk, wp_ct, wp_xc, wp_no, getV, borV, Bo.f, BoN.f, Co.f, Bi.f, Tg.t, addD_i, addD_s, addD_t, catD_l, subD_i, mulD_i, mulD_s, mulD_t, repD_l, fdivD_i, modD_i, eqD_s, eqD_i, eqD_b, neD_s, neD_i, neD_b, ltD_i, gtD_i, leD_i, geD_i, isND_n, notND_n, nonD_n, nonD_s, nonD_i, nonD_b, nonD_l, nonD_t, inD_s, ninD_s, ixD_l, ixD_t, lenD_l, lenD_t, lenD_s, max2_i, min2_i, listL_l, listL_t, tupL_l, tupL_t, int1_i, items_l, items_t, items_s, rng1_i, rng2_i, slD_s, slD_t, slN_l, isi_ss, isi_si, isi_sb, isi_sl, isi_st, isi_sn, isi_is, isi_ii, isi_ib, isi_il, isi_it, isi_in, isi_bs, isi_bi, isi_bb, isi_bl, isi_bt, isi_bn, isi_ls, isi_li, isi_lb, isi_ll, isi_lt, isi_ln, isi_ts, isi_ti, isi_tb, isi_tl, isi_tt, isi_tn, tl_s, tl_i, tl_b, tl_l, tl_t, tl_n, List.getElem?_cons_zero, List.getElem?_cons_succ, List.set_cons_zero, List.set_cons_succ, List.length_cons, List.length_nil, Nat.reduceAdd, Nat.reduceLT, Nat.reduceLeDiff, Nat.zero_lt_succ, D.bl.injEq, D.int.injEq, D.str.injEq, exists_eq_left', exists_eq_left, true_and, and_true, forall_const, Bool.true_and, Bool.and_true, Bool.false_eq_true, Bool.not_true, Bool.not_false, if_true, true_implies, false_implies, eq_self, Bool.true_eq_false, reduceCtorEq, decide_true, decide_eq_true_eq, decide_eq_false_iff_not, Decidable.not_not, beq_self_eq_true, not_true_eq_false, not_false_eq_true, Bool.not_eq_true', Bool.not_eq_false', Option.some.injEq, wipeD, List.map_cons, List.map_nil, List.foldr_cons, List.foldr_nil, tgName, tgTup, tgNames, Option.bind_some, and_self])
  rw [w_scons]
  (try simp only [w_var, w_bor, w_kint, w_kstr, w_kbl, w_knon, w_gint, w_gstr, w_bin, w_binN, w_cmp, w_ix, w_chn, chnW_b, w_neg, w_notv, w_one, w_andv, w_orv, w_ite, w_tup, w_lst, w_cal, w_listN, w_tupC, w_intC, w_isi, w_isi2', w_sl, w_slN, w_pn, w_ps, w_nil, w_cons, w_tval, w_tcmp, w_tchn, w_tnot, w_tw, w_tone, w_tyes, w_tand, w_tor, w_seq, w_r1, w_r2, w_r3, w_fld, w_prop, w_enu, w_lrg, w_ltx, w_srt, Fl.f, w_snil, w_ret, w_retN, w_asg, w_own, w_expr, w_if, w_for, w_brk, w_cnt, w_pass, w_raise, w_app2, ownL_o, w_par, w_unp, w_lcAf, w_lcAt, wp_of_some, wp_of_ite, wp_ok, wp_bad, wp_exc, wp_nx, wp_rt, wp_bk, wp_ct, wp_xc, wp_no, getV, borV, Bo.f, BoN.f, Co.f, Bi.f, Tg.t, addD_i, addD_s, addD_t, catD_l, subD_i, mulD_i, mulD_s, mulD_t, repD_l, fdivD_i, modD_i, eqD_s, eqD_i, eqD_b, neD_s, neD_i, neD_b, ltD_i, gtD_i, leD_i, geD_i, isND_n, notND_n, nonD_n, nonD_s, nonD_i, nonD_b, nonD_l, nonD_t, inD_s, ninD_s, ixD_l, ixD_t, lenD_l, lenD_t, lenD_s, max2_i, min2_i, listL_l, listL_t, tupL_l, tupL_t, int1_i, items_l, items_t, items_s, rng1_i, rng2_i, slD_s, slD_t, slN_l, isi_ss, isi_si, isi_sb, isi_sl, isi_st, isi_sn, isi_is, isi_ii, isi_ib, isi_il, isi_it, isi_in, isi_bs, isi_bi, isi_bb, isi_bl, isi_bt, isi_bn, isi_ls, isi_li, isi_lb, isi_ll, isi_lt, isi_ln, isi_ts, isi_ti, isi_tb, isi_tl, isi_tt, isi_tn, tl_s, tl_i, tl_b, tl_l, tl_t, tl_n, List.getElem?_cons_zero, List.getElem?_cons_succ, List.set_cons_zero, List.set_cons_succ, List.length_cons, List.length_nil, Nat.reduceAdd, Nat.reduceLT, Nat.reduceLeDiff, Nat.zero_lt_succ, D.bl.injEq, D.int.injEq, D.str.injEq, exists_eq_left', exists_eq_left, true_and, and_true, forall_const, Bool.true_and, Bool.and_true, Bool.false_eq_true, Bool.not_true, Bool.not_false, if_true, true_implies, false_implies, eq_self, Bool.true_eq_false, reduceCtorEq, decide_true, decide_eq_true_eq, decide_eq_false_iff_not, Decidable.not_not, beq_self_eq_true, not_true_eq_false, not_false_eq_true, Bool.not_eq_true', Bool.not_eq_false', Option.some.injEq, wipeD, List.map_cons, List.map_nil, List.foldr_cons, List.foldr_nil, tgName, tgTup, tgNames, Option.bind_some, and_self])
  refine wp_lcm (fun i : Nat => .tup [.int (0 + (i : Int)), .str [w.getD i 0]]) (fun i => .tup [.int (0 + (i : Int)), .str [w.getD i 0]]) ?_
  (try simp only [w_var, w_bor, w_kint, w_kstr, w_kbl, w_knon, w_gint, w_gstr, w_bin, w_binN, w_cmp, w_ix, w_chn, chnW_b, w_neg, w_notv, w_one, w_andv, w_orv, w_ite, w_tup, w_lst, w_cal, w_listN, w_tupC, w_intC, w_isi, w_isi2', w_sl, w_slN, w_pn, w_ps, w_nil, w_cons, w_tval, w_tcmp, w_tchn, w_tnot, w_tw, w_tone, w_tyes, w_tand, w_tor, w_seq, w_r1, w_r2, w_r3, w_fld, w_prop, w_enu, w_lrg, w_ltx, w_srt, Fl.f, w_snil, w_ret, w_retN, w_asg, w_own, w_expr, w_if, w_for, w_brk, w_cnt, w_pass, w_raise, w_app2, ownL_o, w_par, w_unp, w_lcAf, w_lcAt, wp_of_some, wp_of_ite, wp_ok, wp_bad, wp_exc, wp_nx, wp_rt, wp_bk, wp_ct, wp_xc, wp_no, getV, borV, Bo.f, BoN.f, Co.f, Bi.f, Tg.t, addD_i, addD_s, addD_t, catD_l, subD_i, mulD_i, mulD_s, mulD_t, repD_l, fdivD_i, modD_i, eqD_s, eqD_i, eqD_b, neD_s, neD_i, neD_b, ltD_i, gtD_i, leD_i, geD_i, isND_n, notND_n, nonD_n, nonD_s, nonD_i, nonD_b, nonD_l, nonD_t, inD_s, ninD_s, ixD_l, ixD_t, lenD_l, lenD_t, lenD_s, max2_i, min2_i, listL_l, listL_t, tupL_l, tupL_t, int1_i, items_l, items_t, items_s, rng1_i, rng2_i, slD_s, slD_t, slN_l, isi_ss, isi_si, isi_sb, isi_sl, isi_st, isi_sn, isi_is, isi_ii, isi_ib, isi_il, isi_it, isi_in, isi_bs, isi_bi, isi_bb, isi_bl, isi_bt, isi_bn, isi_ls, isi_li, isi_lb, isi_ll, isi_lt, isi_ln, isi_ts, isi_ti, isi_tb, isi_tl, isi_tt, isi_tn, tl_s, tl_i, tl_b, tl_l, tl_t, tl_n, List.getElem?_cons_zero, List.getElem?_cons_succ, List.set_cons_zero, List.set_cons_succ, List.length_cons, List.length_nil, Nat.reduceAdd, Nat.reduceLT, Nat.reduceLeDiff, Nat.zero_lt_succ, D.bl.injEq, D.int.injEq, D.str.injEq, exists_eq_left', exists_eq_left, true_and, and_true, forall_const, Bool.true_and, Bool.and_true, Bool.false_eq_true, Bool.not_true, Bool.not_false, if_true, true_implies, false_implies, eq_self, Bool.true_eq_false, reduceCtorEq, decide_true, decide_eq_true_eq, decide_eq_false_iff_not, Decidable.not_not, beq_self_eq_true, not_true_eq_false, not_false_eq_true, Bool.not_eq_true', Bool.not_eq_false', Option.some.injEq, wipeD, List.map_cons, List.map_nil, List.foldr_cons, List.foldr_nil, tgName, tgTup, tgNames, Option.bind_some, and_self, enuArgs_str])
  refine ⟨rfl, List.range w.length, rfl, by (first | omega | with_reducible assumption | (refine LN_le ?_; (try simp only [rot_len, List.length_append, List.length_drop, List.length_take, List.length_map, List.length_cons, List.length_nil, List.length_range, rangeD_len]); omega) | (refine LN_lt ?_; (try simp only [rot_len, List.length_append, List.length_drop, List.length_take, List.length_map, List.length_cons, List.length_nil, List.length_range, rangeD_len]); omega) | (refine big_le ?_ ?_ <;> (try simp only [rot_len, List.length_append, List.length_drop, List.length_take, List.length_map, List.length_cons, List.length_nil, List.length_range, rangeD_len]) <;> omega) | (refine big2 (big_le ?_ ?_) (big_le ?_ ?_) <;> (try simp only [rot_len, List.length_append, List.length_drop, List.length_take, List.length_map, List.length_cons, List.length_nil, List.length_range, rangeD_len]) <;> omega)), fun i hi => by decide, ?_⟩
  have e0 : (List.range w.length).map (fun i : Nat => D.tup [.int (0 + (i : Int)), .str [w.getD i 0]]) = (letters w).map pieceD := by
    unfold letters; rw [List.map_map]; rfl
  rw [e0]
  have hring := letters_ring (w := w) (by omega)
  have hl0 : (letters w).length = w.length := by simp [letters]
  rw [w_scons, w_whl]
  refine wp_while (fun s => ∃ (ps : List (Nat × Wd)) (o : Option DV), Ring w ps ∧ ps ≠ [] ∧ ps.length ≤ 99 ∧ (o = none ∨ ∃ z, o = some (.im z)) ∧ s = ⟨[some (.im (.str w)), some (.im (.lst (ps.map pieceD))), o, none, none, none], ⟨0, [], 0⟩⟩) (fun s => llenAt s.env[1]?) ?_ _ _ ⟨letters w, none, hring, by intro e; rw [e] at hl0; simp at hl0; omega, by omega, .inl rfl, rfl⟩ (by show ((letters w).map pieceD).length < 10 ^ 60; rw [List.length_map, hl0]; exact h60)
  rintro s ⟨ps, o, hr, hne, hl, hoo, rfl⟩
  have htx : (texts ps).flatten.length = w.length := by
    obtain ⟨a, _, c⟩ := hr.ex
    rw [c, rot_len]
  have htl := texts_len_le ps
  (try simp only [w_var, w_bor, w_kint, w_kstr, w_kbl, w_knon, w_gint, w_gstr, w_bin, w_binN, w_cmp, w_ix, w_chn, chnW_b, w_neg, w_notv, w_one, w_andv, w_orv, w_ite, w_tup, w_lst, w_cal, w_listN, w_tupC, w_intC, w_isi, w_isi2', w_sl, w_slN, w_pn, w_ps, w_nil, w_cons, w_tval, w_tcmp, w_tchn, w_tnot, w_tw, w_tone, w_tyes, w_tand, w_tor, w_seq, w_r1, w_r2, w_r3, w_fld, w_prop, w_enu, w_lrg, w_ltx, w_srt, Fl.f, w_snil, w_ret, w_retN, w_asg, w_own, w_expr, w_if, w_for, w_brk, w_cnt, w_pass, w_raise, w_app2, ownL_o, w_par, w_unp, w_lcAf, w_lcAt, wp_of_some, wp_of_ite, wp_ok, wp_bad, wp_exc, wp_nx, wp_rt, wp_bk, wp_ct, wp_xc, wp_no, getV, borV, Bo.f, BoN.f, Co.f, Bi.f, Tg.t, addD_i, addD_s, addD_t, catD_l, subD_i, mulD_i, mulD_s, mulD_t, repD_l, fdivD_i, modD_i, eqD_s, eqD_i, eqD_b, neD_s, neD_i, neD_b, ltD_i, gtD_i, leD_i, geD_i, isND_n, notND_n, nonD_n, nonD_s, nonD_i, nonD_b, nonD_l, nonD_t, inD_s, ninD_s, ixD_l, ixD_t, lenD_l, lenD_t, lenD_s, max2_i, min2_i, listL_l, listL_t, tupL_l, tupL_t, int1_i, items_l, items_t, items_s, rng1_i, rng2_i, slD_s, slD_t, slN_l, isi_ss, isi_si, isi_sb, isi_sl, isi_st, isi_sn, isi_is, isi_ii, isi_ib, isi_il, isi_it, isi_in, isi_bs, isi_bi, isi_bb, isi_bl, isi_bt, isi_bn, isi_ls, isi_li, isi_lb, isi_ll, isi_lt, isi_ln, isi_ts, isi_ti, isi_tb, isi_tl, isi_tt, isi_tn, tl_s, tl_i, tl_b, tl_l, tl_t, tl_n, List.getElem?_cons_zero, List.getElem?_cons_succ, List.set_cons_zero, List.set_cons_succ, List.length_cons, List.length_nil, Nat.reduceAdd, Nat.reduceLT, Nat.reduceLeDiff, Nat.zero_lt_succ, D.bl.injEq, D.int.injEq, D.str.injEq, exists_eq_left', exists_eq_left, true_and, and_true, forall_const, Bool.true_and, Bool.and_true, Bool.false_eq_true, Bool.not_true, Bool.not_false, if_true, true_implies, false_implies, eq_self, Bool.true_eq_false, reduceCtorEq, decide_true, decide_eq_true_eq, decide_eq_false_iff_not, Decidable.not_not, beq_self_eq_true, not_true_eq_false, not_false_eq_true, Bool.not_eq_true', Bool.not_eq_false', Option.some.injEq, wipeD, List.map_cons, List.map_nil, List.foldr_cons, List.foldr_nil, tgName, tgTup, tgNames, Option.bind_some, and_self])
  rw [List.length_map]
  refine And.intro (by (first | omega | with_reducible assumption | (refine LN_le ?_; (try simp only [rot_len, List.length_append, List.length_drop, List.length_take, List.length_map, List.length_cons, List.length_nil, List.length_range, rangeD_len]); omega) | (refine LN_lt ?_; (try simp only [rot_len, List.length_append, List.length_drop, List.length_take, List.length_map, List.length_cons, List.length_nil, List.length_range, rangeD_len]); omega) | (refine big_le ?_ ?_ <;> (try simp only [rot_len, List.length_append, List.length_drop, List.length_take, List.length_map, List.length_cons, List.length_nil, List.length_range, rangeD_len]) <;> omega) | (refine big2 (big_le ?_ ?_) (big_le ?_ ?_) <;> (try simp only [rot_len, List.length_append, List.length_drop, List.length_take, List.length_map, List.length_cons, List.length_nil, List.length_range, rangeD_len]) <;> omega))) (And.intro (fun h2 => ?_) (fun h2 => ?_))
  · rw [w_scons]
    (try simp only [w_var, w_bor, w_kint, w_kstr, w_kbl, w_knon, w_gint, w_gstr, w_bin, w_binN, w_cmp, w_ix, w_chn, chnW_b, w_neg, w_notv, w_one, w_andv, w_orv, w_ite, w_tup, w_lst, w_cal, w_listN, w_tupC, w_intC, w_isi, w_isi2', w_sl, w_slN, w_pn, w_ps, w_nil, w_cons, w_tval, w_tcmp, w_tchn, w_tnot, w_tw, w_tone, w_tyes, w_tand, w_tor, w_seq, w_r1, w_r2, w_r3, w_fld, w_prop, w_enu, w_lrg, w_ltx, w_srt, Fl.f, w_snil, w_ret, w_retN, w_asg, w_own, w_expr, w_if, w_for, w_brk, w_cnt, w_pass, w_raise, w_app2, ownL_o, w_par, w_unp, w_lcAf, w_lcAt, wp_of_some, wp_of_ite, wp_ok, wp_bad, wp_exc, wp_nx, wp_rt, wp_bk, wp_ct, wp_xc, wp_no, getV, borV, Bo.f, BoN.f, Co.f, Bi.f, Tg.t, addD_i, addD_s, addD_t, catD_l, subD_i, mulD_i, mulD_s, mulD_t, repD_l, fdivD_i, modD_i, eqD_s, eqD_i, eqD_b, neD_s, neD_i, neD_b, ltD_i, gtD_i, leD_i, geD_i, isND_n, notND_n, nonD_n, nonD_s, nonD_i, nonD_b, nonD_l, nonD_t, inD_s, ninD_s, ixD_l, ixD_t, lenD_l, lenD_t, lenD_s, max2_i, min2_i, listL_l, listL_t, tupL_l, tupL_t, int1_i, items_l, items_t, items_s, rng1_i, rng2_i, slD_s, slD_t, slN_l, isi_ss, isi_si, isi_sb, isi_sl, isi_st, isi_sn, isi_is, isi_ii, isi_ib, isi_il, isi_it, isi_in, isi_bs, isi_bi, isi_bb, isi_bl, isi_bt, isi_bn, isi_ls, isi_li, isi_lb, isi_ll, isi_lt, isi_ln, isi_ts, isi_ti, isi_tb, isi_tl, isi_tt, isi_tn, tl_s, tl_i, tl_b, tl_l, tl_t, tl_n, List.getElem?_cons_zero, List.getElem?_cons_succ, List.set_cons_zero, List.set_cons_succ, List.length_cons, List.length_nil, Nat.reduceAdd, Nat.reduceLT, Nat.reduceLeDiff, Nat.zero_lt_succ, D.bl.injEq, D.int.injEq, D.str.injEq, exists_eq_left', exists_eq_left, true_and, and_true, forall_const, Bool.true_and, Bool.and_true, Bool.false_eq_true, Bool.not_true, Bool.not_false, if_true, true_implies, false_implies, eq_self, Bool.true_eq_false, reduceCtorEq, decide_true, decide_eq_true_eq, decide_eq_false_iff_not, Decidable.not_not, beq_self_eq_true, not_true_eq_false, not_false_eq_true, Bool.not_eq_true', Bool.not_eq_false', Option.some.injEq, wipeD, List.map_cons, List.map_nil, List.foldr_cons, List.foldr_nil, tgName, tgTup, tgNames, Option.bind_some, and_self])
    refine wp_lcf pieceD (fun p => decide (p.2.length % 2 = 1)) (fun p => oddD p.2) ?_
    (try simp only [w_var, w_bor, w_kint, w_kstr, w_kbl, w_knon, w_gint, w_gstr, w_bin, w_binN, w_cmp, w_ix, w_chn, chnW_b, w_neg, w_notv, w_one, w_andv, w_orv, w_ite, w_tup, w_lst, w_cal, w_listN, w_tupC, w_intC, w_isi, w_isi2', w_sl, w_slN, w_pn, w_ps, w_nil, w_cons, w_tval, w_tcmp, w_tchn, w_tnot, w_tw, w_tone, w_tyes, w_tand, w_tor, w_seq, w_r1, w_r2, w_r3, w_fld, w_prop, w_enu, w_lrg, w_ltx, w_srt, Fl.f, w_snil, w_ret, w_retN, w_asg, w_own, w_expr, w_if, w_for, w_brk, w_cnt, w_pass, w_raise, w_app2, ownL_o, w_par, w_unp, w_lcAf, w_lcAt, wp_of_some, wp_of_ite, wp_ok, wp_bad, wp_exc, wp_nx, wp_rt, wp_bk, wp_ct, wp_xc, wp_no, getV, borV, Bo.f, BoN.f, Co.f, Bi.f, Tg.t, addD_i, addD_s, addD_t, catD_l, subD_i, mulD_i, mulD_s, mulD_t, repD_l, fdivD_i, modD_i, eqD_s, eqD_i, eqD_b, neD_s, neD_i, neD_b, ltD_i, gtD_i, leD_i, geD_i, isND_n, notND_n, nonD_n, nonD_s, nonD_i, nonD_b, nonD_l, nonD_t, inD_s, ninD_s, ixD_l, ixD_t, lenD_l, lenD_t, lenD_s, max2_i, min2_i, listL_l, listL_t, tupL_l, tupL_t, int1_i, items_l, items_t, items_s, rng1_i, rng2_i, slD_s, slD_t, slN_l, isi_ss, isi_si, isi_sb, isi_sl, isi_st, isi_sn, isi_is, isi_ii, isi_ib, isi_il, isi_it, isi_in, isi_bs, isi_bi, isi_bb, isi_bl, isi_bt, isi_bn, isi_ls, isi_li, isi_lb, isi_ll, isi_lt, isi_ln, isi_ts, isi_ti, isi_tb, isi_tl, isi_tt, isi_tn, tl_s, tl_i, tl_b, tl_l, tl_t, tl_n, List.getElem?_cons_zero, List.getElem?_cons_succ, List.set_cons_zero, List.set_cons_succ, List.length_cons, List.length_nil, Nat.reduceAdd, Nat.reduceLT, Nat.reduceLeDiff, Nat.zero_lt_succ, D.bl.injEq, D.int.injEq, D.str.injEq, exists_eq_left', exists_eq_left, true_and, and_true, forall_const, Bool.true_and, Bool.and_true, Bool.false_eq_true, Bool.not_true, Bool.not_false, if_true, true_implies, false_implies, eq_self, Bool.true_eq_false, reduceCtorEq, decide_true, decide_eq_true_eq, decide_eq_false_iff_not, Decidable.not_not, beq_self_eq_true, not_true_eq_false, not_false_eq_true, Bool.not_eq_true', Bool.not_eq_false', Option.some.injEq, wipeD, List.map_cons, List.map_nil, List.foldr_cons, List.foldr_nil, tgName, tgTup, tgNames, Option.bind_some, and_self])
    refine ⟨rfl, ps, rfl, by (first | omega | with_reducible assumption | (refine LN_le ?_; (try simp only [rot_len, List.length_append, List.length_drop, List.length_take, List.length_map, List.length_cons, List.length_nil, List.length_range, rangeD_len]); omega) | (refine LN_lt ?_; (try simp only [rot_len, List.length_append, List.length_drop, List.length_take, List.length_map, List.length_cons, List.length_nil, List.length_range, rangeD_len]); omega) | (refine big_le ?_ ?_ <;> (try simp only [rot_len, List.length_append, List.length_drop, List.length_take, List.length_map, List.length_cons, List.length_nil, List.length_range, rangeD_len]) <;> omega) | (refine big2 (big_le ?_ ?_) (big_le ?_ ?_) <;> (try simp only [rot_len, List.length_append, List.length_drop, List.length_take, List.length_map, List.length_cons, List.length_nil, List.length_range, rangeD_len]) <;> omega)), fun p hp => ⟨_, rfl, ?_⟩, ?_⟩
    · have := htl p hp
      (try simp only [w_var, w_bor, w_kint, w_kstr, w_kbl, w_knon, w_gint, w_gstr, w_bin, w_binN, w_cmp, w_ix, w_chn, chnW_b, w_neg, w_notv, w_one, w_andv, w_orv, w_ite, w_tup, w_lst, w_cal, w_listN, w_tupC, w_intC, w_isi, w_isi2', w_sl, w_slN, w_pn, w_ps, w_nil, w_cons, w_tval, w_tcmp, w_tchn, w_tnot, w_tw, w_tone, w_tyes, w_tand, w_tor, w_seq, w_r1, w_r2, w_r3, w_fld, w_prop, w_enu, w_lrg, w_ltx, w_srt, Fl.f, w_snil, w_ret, w_retN, w_asg, w_own, w_expr, w_if, w_for, w_brk, w_cnt, w_pass, w_raise, w_app2, ownL_o, w_par, w_unp, w_lcAf, w_lcAt, wp_of_some, wp_of_ite, wp_ok, wp_bad, wp_exc, wp_nx, wp_rt, wp_bk, wp_ct, wp_xc, wp_no, getV, borV, Bo.f, BoN.f, Co.f, Bi.f, Tg.t, addD_i, addD_s, addD_t, catD_l, subD_i, mulD_i, mulD_s, mulD_t, repD_l, fdivD_i, modD_i, eqD_s, eqD_i, eqD_b, neD_s, neD_i, neD_b, ltD_i, gtD_i, leD_i, geD_i, isND_n, notND_n, nonD_n, nonD_s, nonD_i, nonD_b, nonD_l, nonD_t, inD_s, ninD_s, ixD_l, ixD_t, lenD_l, lenD_t, lenD_s, max2_i, min2_i, listL_l, listL_t, tupL_l, tupL_t, int1_i, items_l, items_t, items_s, rng1_i, rng2_i, slD_s, slD_t, slN_l, isi_ss, isi_si, isi_sb, isi_sl, isi_st, isi_sn, isi_is, isi_ii, isi_ib, isi_il, isi_it, isi_in, isi_bs, isi_bi, isi_bb, isi_bl, isi_bt, isi_bn, isi_ls, isi_li, isi_lb, isi_ll, isi_lt, isi_ln, isi_ts, isi_ti, isi_tb, isi_tl, isi_tt, isi_tn, tl_s, tl_i, tl_b, tl_l, tl_t, tl_n, List.getElem?_cons_zero, List.getElem?_cons_succ, List.set_cons_zero, List.set_cons_succ, List.length_cons, List.length_nil, Nat.reduceAdd, Nat.reduceLT, Nat.reduceLeDiff, Nat.zero_lt_succ, D.bl.injEq, D.int.injEq, D.str.injEq, exists_eq_left', exists_eq_left, true_and, and_true, forall_const, Bool.true_and, Bool.and_true, Bool.false_eq_true, Bool.not_true, Bool.not_false, if_true, true_implies, false_implies, eq_self, Bool.true_eq_false, reduceCtorEq, decide_true, decide_eq_true_eq, decide_eq_false_iff_not, Decidable.not_not, beq_self_eq_true, not_true_eq_false, not_false_eq_true, Bool.not_eq_true', Bool.not_eq_false', Option.some.injEq, wipeD, List.map_cons, List.map_nil, List.foldr_cons, List.foldr_nil, tgName, tgTup, tgNames, Option.bind_some, and_self])
      exact ⟨by (first | omega | with_reducible assumption | (refine LN_le ?_; (try simp only [rot_len, List.length_append, List.length_drop, List.length_take, List.length_map, List.length_cons, List.length_nil, List.length_range, rangeD_len]); omega) | (refine LN_lt ?_; (try simp only [rot_len, List.length_append, List.length_drop, List.length_take, List.length_map, List.length_cons, List.length_nil, List.length_range, rangeD_len]); omega) | (refine big_le ?_ ?_ <;> (try simp only [rot_len, List.length_append, List.length_drop, List.length_take, List.length_map, List.length_cons, List.length_nil, List.length_range, rangeD_len]) <;> omega) | (refine big2 (big_le ?_ ?_) (big_le ?_ ?_) <;> (try simp only [rot_len, List.length_append, List.length_drop, List.length_take, List.length_map, List.length_cons, List.length_nil, List.length_range, rangeD_len]) <;> omega)), by decide, decide_eq_decide.mpr (by omega), fun _ => ⟨by (first | omega | with_reducible assumption | (refine LN_le ?_; (try simp only [rot_len, List.length_append, List.length_drop, List.length_take, List.length_map, List.length_cons, List.length_nil, List.length_range, rangeD_len]); omega) | (refine LN_lt ?_; (try simp only [rot_len, List.length_append, List.length_drop, List.length_take, List.length_map, List.length_cons, List.length_nil, List.length_range, rangeD_len]); omega) | (refine big_le ?_ ?_ <;> (try simp only [rot_len, List.length_append, List.length_drop, List.length_take, List.length_map, List.length_cons, List.length_nil, List.length_range, rangeD_len]) <;> omega) | (refine big2 (big_le ?_ ?_) (big_le ?_ ?_) <;> (try simp only [rot_len, List.length_append, List.length_drop, List.length_take, List.length_map, List.length_cons, List.length_nil, List.length_range, rangeD_len]) <;> omega)), by decide, rfl⟩, fun _ => trivial⟩
    have hoddr := hr.odd ho
    have ets : (ps.filter fun p => decide (p.2.length % 2 = 1)).map (fun p => oddD p.2) = ((ps.filter fun p => decide (p.2.length % 2 = 1)).map (·.2)).map oddD := by rw [List.map_map]; rfl
    have hmemts : ∀ t, t ∈ (ps.filter fun p => decide (p.2.length % 2 = 1)).map (·.2) ↔ ∃ p, p ∈ ps ∧ p.2 = t ∧ oddW t := by
      intro t
      rw [List.mem_map]
      constructor
      · rintro ⟨p, hp, rfl⟩
        rw [List.mem_filter] at hp
        exact ⟨p, hp.1, rfl, by unfold oddW; simpa using hp.2⟩
      · rintro ⟨p, hp, rfl, h⟩
        exact ⟨p, List.mem_filter.mpr ⟨hp, by unfold oddW at h; simpa using h⟩, rfl⟩
    rw [ets]
    generalize (ps.filter fun p => decide (p.2.length % 2 = 1)).map (·.2) = ts at hmemts ⊢
    cases ts with
    | nil =>
      obtain ⟨p, hp, hpo⟩ := hoddr
      have := (hmemts p.2).mpr ⟨p, hp, rfl, hpo⟩
      cases this
    | cons x0 xs =>
      obtain ⟨pm, hpm, epm, opm⟩ := (hmemts _).mp (minO_mem x0 xs)
      have hleast : ∀ p, p ∈ ps → oddW p.2 → lle (minO x0 xs) p.2 := fun p hp h => minO_le x0 xs p.2 ((hmemts p.2).mpr ⟨p, hp, rfl, h⟩)
      have hother : ∃ p, p ∈ ps ∧ p.2 ≠ minO x0 xs := hr.other hs (by omega) (by omega) (by intro q; rw [q] at opm; cases opm)
      obtain ⟨j1, j2, j3⟩ := hr.join (by omega) ⟨pm, hpm, epm⟩ opm hleast hother
      rw [w_scons]
      (try simp only [w_var, w_bor, w_kint, w_kstr, w_kbl, w_knon, w_gint, w_gstr, w_bin, w_binN, w_cmp, w_ix, w_chn, chnW_b, w_neg, w_notv, w_one, w_andv, w_orv, w_ite, w_tup, w_lst, w_cal, w_listN, w_tupC, w_intC, w_isi, w_isi2', w_sl, w_slN, w_pn, w_ps, w_nil, w_cons, w_tval, w_tcmp, w_tchn, w_tnot, w_tw, w_tone, w_tyes, w_tand, w_tor, w_seq, w_r1, w_r2, w_r3, w_fld, w_prop, w_enu, w_lrg, w_ltx, w_srt, Fl.f, w_snil, w_ret, w_retN, w_asg, w_own, w_expr, w_if, w_for, w_brk, w_cnt, w_pass, w_raise, w_app2, ownL_o, w_par, w_unp, w_lcAf, w_lcAt, wp_of_some, wp_of_ite, wp_ok, wp_bad, wp_exc, wp_nx, wp_rt, wp_bk, wp_ct, wp_xc, wp_no, getV, borV, Bo.f, BoN.f, Co.f, Bi.f, Tg.t, addD_i, addD_s, addD_t, catD_l, subD_i, mulD_i, mulD_s, mulD_t, repD_l, fdivD_i, modD_i, eqD_s, eqD_i, eqD_b, neD_s, neD_i, neD_b, ltD_i, gtD_i, leD_i, geD_i, isND_n, notND_n, nonD_n, nonD_s, nonD_i, nonD_b, nonD_l, nonD_t, inD_s, ninD_s, ixD_l, ixD_t, lenD_l, lenD_t, lenD_s, max2_i, min2_i, listL_l, listL_t, tupL_l, tupL_t, int1_i, items_l, items_t, items_s, rng1_i, rng2_i, slD_s, slD_t, slN_l, isi_ss, isi_si, isi_sb, isi_sl, isi_st, isi_sn, isi_is, isi_ii, isi_ib, isi_il, isi_it, isi_in, isi_bs, isi_bi, isi_bb, isi_bl, isi_bt, isi_bn, isi_ls, isi_li, isi_lb, isi_ll, isi_lt, isi_ln, isi_ts, isi_ti, isi_tb, isi_tl, isi_tt, isi_tn, tl_s, tl_i, tl_b, tl_l, tl_t, tl_n, List.getElem?_cons_zero, List.getElem?_cons_succ, List.set_cons_zero, List.set_cons_succ, List.length_cons, List.length_nil, Nat.reduceAdd, Nat.reduceLT, Nat.reduceLeDiff, Nat.zero_lt_succ, D.bl.injEq, D.int.injEq, D.str.injEq, exists_eq_left', exists_eq_left, true_and, and_true, forall_const, Bool.true_and, Bool.and_true, Bool.false_eq_true, Bool.not_true, Bool.not_false, if_true, true_implies, false_implies, eq_self, Bool.true_eq_false, reduceCtorEq, decide_true, decide_eq_true_eq, decide_eq_false_iff_not, Decidable.not_not, beq_self_eq_true, not_true_eq_false, not_false_eq_true, Bool.not_eq_true', Bool.not_eq_false', Option.some.injEq, wipeD, List.map_cons, List.map_nil, List.foldr_cons, List.foldr_nil, tgName, tgTup, tgNames, Option.bind_some, and_self])
      refine wp_call rfl ?_
      (try simp only [w_var, w_bor, w_kint, w_kstr, w_kbl, w_knon, w_gint, w_gstr, w_bin, w_binN, w_cmp, w_ix, w_chn, chnW_b, w_neg, w_notv, w_one, w_andv, w_orv, w_ite, w_tup, w_lst, w_cal, w_listN, w_tupC, w_intC, w_isi, w_isi2', w_sl, w_slN, w_pn, w_ps, w_nil, w_cons, w_tval, w_tcmp, w_tchn, w_tnot, w_tw, w_tone, w_tyes, w_tand, w_tor, w_seq, w_r1, w_r2, w_r3, w_fld, w_prop, w_enu, w_lrg, w_ltx, w_srt, Fl.f, w_snil, w_ret, w_retN, w_asg, w_own, w_expr, w_if, w_for, w_brk, w_cnt, w_pass, w_raise, w_app2, ownL_o, w_par, w_unp, w_lcAf, w_lcAt, wp_of_some, wp_of_ite, wp_ok, wp_bad, wp_exc, wp_nx, wp_rt, wp_bk, wp_ct, wp_xc, wp_no, getV, borV, Bo.f, BoN.f, Co.f, Bi.f, Tg.t, addD_i, addD_s, addD_t, catD_l, subD_i, mulD_i, mulD_s, mulD_t, repD_l, fdivD_i, modD_i, eqD_s, eqD_i, eqD_b, neD_s, neD_i, neD_b, ltD_i, gtD_i, leD_i, geD_i, isND_n, notND_n, nonD_n, nonD_s, nonD_i, nonD_b, nonD_l, nonD_t, inD_s, ninD_s, ixD_l, ixD_t, lenD_l, lenD_t, lenD_s, max2_i, min2_i, listL_l, listL_t, tupL_l, tupL_t, int1_i, items_l, items_t, items_s, rng1_i, rng2_i, slD_s, slD_t, slN_l, isi_ss, isi_si, isi_sb, isi_sl, isi_st, isi_sn, isi_is, isi_ii, isi_ib, isi_il, isi_it, isi_in, isi_bs, isi_bi, isi_bb, isi_bl, isi_bt, isi_bn, isi_ls, isi_li, isi_lb, isi_ll, isi_lt, isi_ln, isi_ts, isi_ti, isi_tb, isi_tl, isi_tt, isi_tn, tl_s, tl_i, tl_b, tl_l, tl_t, tl_n, List.getElem?_cons_zero, List.getElem?_cons_succ, List.set_cons_zero, List.set_cons_succ, List.length_cons, List.length_nil, Nat.reduceAdd, Nat.reduceLT, Nat.reduceLeDiff, Nat.zero_lt_succ, D.bl.injEq, D.int.injEq, D.str.injEq, exists_eq_left', exists_eq_left, true_and, and_true, forall_const, Bool.true_and, Bool.and_true, Bool.false_eq_true, Bool.not_true, Bool.not_false, if_true, true_implies, false_implies, eq_self, Bool.true_eq_false, reduceCtorEq, decide_true, decide_eq_true_eq, decide_eq_false_iff_not, Decidable.not_not, beq_self_eq_true, not_true_eq_false, not_false_eq_true, Bool.not_eq_true', Bool.not_eq_false', Option.some.injEq, wipeD, List.map_cons, List.map_nil, List.foldr_cons, List.foldr_nil, tgName, tgTup, tgNames, Option.bind_some, and_self, minL_odd])
      rw [show oddD (minO x0 xs) = .tup [.int (((minO x0 xs).length : Nat) : Int), .str (minO x0 xs)] from rfl]
      (try simp only [w_var, w_bor, w_kint, w_kstr, w_kbl, w_knon, w_gint, w_gstr, w_bin, w_binN, w_cmp, w_ix, w_chn, chnW_b, w_neg, w_notv, w_one, w_andv, w_orv, w_ite, w_tup, w_lst, w_cal, w_listN, w_tupC, w_intC, w_isi, w_isi2', w_sl, w_slN, w_pn, w_ps, w_nil, w_cons, w_tval, w_tcmp, w_tchn, w_tnot, w_tw, w_tone, w_tyes, w_tand, w_tor, w_seq, w_r1, w_r2, w_r3, w_fld, w_prop, w_enu, w_lrg, w_ltx, w_srt, Fl.f, w_snil, w_ret, w_retN, w_asg, w_own, w_expr, w_if, w_for, w_brk, w_cnt, w_pass, w_raise, w_app2, ownL_o, w_par, w_unp, w_lcAf, w_lcAt, wp_of_some, wp_of_ite, wp_ok, wp_bad, wp_exc, wp_nx, wp_rt, wp_bk, wp_ct, wp_xc, wp_no, getV, borV, Bo.f, BoN.f, Co.f, Bi.f, Tg.t, addD_i, addD_s, addD_t, catD_l, subD_i, mulD_i, mulD_s, mulD_t, repD_l, fdivD_i, modD_i, eqD_s, eqD_i, eqD_b, neD_s, neD_i, neD_b, ltD_i, gtD_i, leD_i, geD_i, isND_n, notND_n, nonD_n, nonD_s, nonD_i, nonD_b, nonD_l, nonD_t, inD_s, ninD_s, ixD_l, ixD_t, lenD_l, lenD_t, lenD_s, max2_i, min2_i, listL_l, listL_t, tupL_l, tupL_t, int1_i, items_l, items_t, items_s, rng1_i, rng2_i, slD_s, slD_t, slN_l, isi_ss, isi_si, isi_sb, isi_sl, isi_st, isi_sn, isi_is, isi_ii, isi_ib, isi_il, isi_it, isi_in, isi_bs, isi_bi, isi_bb, isi_bl, isi_bt, isi_bn, isi_ls, isi_li, isi_lb, isi_ll, isi_lt, isi_ln, isi_ts, isi_ti, isi_tb, isi_tl, isi_tt, isi_tn, tl_s, tl_i, tl_b, tl_l, tl_t, tl_n, List.getElem?_cons_zero, List.getElem?_cons_succ, List.set_cons_zero, List.set_cons_succ, List.length_cons, List.length_nil, Nat.reduceAdd, Nat.reduceLT, Nat.reduceLeDiff, Nat.zero_lt_succ, D.bl.injEq, D.int.injEq, D.str.injEq, exists_eq_left', exists_eq_left, true_and, and_true, forall_const, Bool.true_and, Bool.and_true, Bool.false_eq_true, Bool.not_true, Bool.not_false, if_true, true_implies, false_implies, eq_self, Bool.true_eq_false, reduceCtorEq, decide_true, decide_eq_true_eq, decide_eq_false_iff_not, Decidable.not_not, beq_self_eq_true, not_true_eq_false, not_false_eq_true, Bool.not_eq_true', Bool.not_eq_false', Option.some.injEq, wipeD, List.map_cons, List.map_nil, List.foldr_cons, List.foldr_nil, tgName, tgTup, tgNames, Option.bind_some, and_self, atI2_1])
      refine ⟨_, v_joined (by omega) hother (by omega), ?_⟩
      (try simp only [w_var, w_bor, w_kint, w_kstr, w_kbl, w_knon, w_gint, w_gstr, w_bin, w_binN, w_cmp, w_ix, w_chn, chnW_b, w_neg, w_notv, w_one, w_andv, w_orv, w_ite, w_tup, w_lst, w_cal, w_listN, w_tupC, w_intC, w_isi, w_isi2', w_sl, w_slN, w_pn, w_ps, w_nil, w_cons, w_tval, w_tcmp, w_tchn, w_tnot, w_tw, w_tone, w_tyes, w_tand, w_tor, w_seq, w_r1, w_r2, w_r3, w_fld, w_prop, w_enu, w_lrg, w_ltx, w_srt, Fl.f, w_snil, w_ret, w_retN, w_asg, w_own, w_expr, w_if, w_for, w_brk, w_cnt, w_pass, w_raise, w_app2, ownL_o, w_par, w_unp, w_lcAf, w_lcAt, wp_of_some, wp_of_ite, wp_ok, wp_bad, wp_exc, wp_nx, wp_rt, wp_bk, wp_ct, wp_xc, wp_no, getV, borV, Bo.f, BoN.f, Co.f, Bi.f, Tg.t, addD_i, addD_s, addD_t, catD_l, subD_i, mulD_i, mulD_s, mulD_t, repD_l, fdivD_i, modD_i, eqD_s, eqD_i, eqD_b, neD_s, neD_i, neD_b, ltD_i, gtD_i, leD_i, geD_i, isND_n, notND_n, nonD_n, nonD_s, nonD_i, nonD_b, nonD_l, nonD_t, inD_s, ninD_s, ixD_l, ixD_t, lenD_l, lenD_t, lenD_s, max2_i, min2_i, listL_l, listL_t, tupL_l, tupL_t, int1_i, items_l, items_t, items_s, rng1_i, rng2_i, slD_s, slD_t, slN_l, isi_ss, isi_si, isi_sb, isi_sl, isi_st, isi_sn, isi_is, isi_ii, isi_ib, isi_il, isi_it, isi_in, isi_bs, isi_bi, isi_bb, isi_bl, isi_bt, isi_bn, isi_ls, isi_li, isi_lb, isi_ll, isi_lt, isi_ln, isi_ts, isi_ti, isi_tb, isi_tl, isi_tt, isi_tn, tl_s, tl_i, tl_b, tl_l, tl_t, tl_n, List.getElem?_cons_zero, List.getElem?_cons_succ, List.set_cons_zero, List.set_cons_succ, List.length_cons, List.length_nil, Nat.reduceAdd, Nat.reduceLT, Nat.reduceLeDiff, Nat.zero_lt_succ, D.bl.injEq, D.int.injEq, D.str.injEq, exists_eq_left', exists_eq_left, true_and, and_true, forall_const, Bool.true_and, Bool.and_true, Bool.false_eq_true, Bool.not_true, Bool.not_false, if_true, true_implies, false_implies, eq_self, Bool.true_eq_false, reduceCtorEq, decide_true, decide_eq_true_eq, decide_eq_false_iff_not, Decidable.not_not, beq_self_eq_true, not_true_eq_false, not_false_eq_true, Bool.not_eq_true', Bool.not_eq_false', Option.some.injEq, wipeD, List.map_cons, List.map_nil, List.foldr_cons, List.foldr_nil, tgName, tgTup, tgNames, Option.bind_some, and_self])
      refine And.intro ⟨_, _, j1, j3, by omega, .inr ⟨_, rfl⟩, rfl⟩ ?_
      show ((joinP ps (minO x0 xs)).map pieceD).length < (ps.map pieceD).length
      rw [List.length_map, List.length_map]; exact j2
  · obtain ⟨p, rfl⟩ : ∃ p, ps = [p] := by
      cases ps with
      | nil => exact absurd rfl hne
      | cons p r =>
        cases r with
        | nil => exact ⟨p, rfl⟩
        | cons q r => simp at h2; omega
    obtain ⟨q1, q2, q3⟩ := hr.one ho (by omega)
    rw [w_scons]
    have e2 : atI ([p].map pieceD) 0 = some (.tup [.int (0 + (p.1 : Int)), .str p.2]) := rfl
    (try simp only [w_var, w_bor, w_kint, w_kstr, w_kbl, w_knon, w_gint, w_gstr, w_bin, w_binN, w_cmp, w_ix, w_chn, chnW_b, w_neg, w_notv, w_one, w_andv, w_orv, w_ite, w_tup, w_lst, w_cal, w_listN, w_tupC, w_intC, w_isi, w_isi2', w_sl, w_slN, w_pn, w_ps, w_nil, w_cons, w_tval, w_tcmp, w_tchn, w_tnot, w_tw, w_tone, w_tyes, w_tand, w_tor, w_seq, w_r1, w_r2, w_r3, w_fld, w_prop, w_enu, w_lrg, w_ltx, w_srt, Fl.f, w_snil, w_ret, w_retN, w_asg, w_own, w_expr, w_if, w_for, w_brk, w_cnt, w_pass, w_raise, w_app2, ownL_o, w_par, w_unp, w_lcAf, w_lcAt, wp_of_some, wp_of_ite, wp_ok, wp_bad, wp_exc, wp_nx, wp_rt, wp_bk, wp_ct, wp_xc, wp_no, getV, borV, Bo.f, BoN.f, Co.f, Bi.f, Tg.t, addD_i, addD_s, addD_t, catD_l, subD_i, mulD_i, mulD_s, mulD_t, repD_l, fdivD_i, modD_i, eqD_s, eqD_i, eqD_b, neD_s, neD_i, neD_b, ltD_i, gtD_i, leD_i, geD_i, isND_n, notND_n, nonD_n, nonD_s, nonD_i, nonD_b, nonD_l, nonD_t, inD_s, ninD_s, ixD_l, ixD_t, lenD_l, lenD_t, lenD_s, max2_i, min2_i, listL_l, listL_t, tupL_l, tupL_t, int1_i, items_l, items_t, items_s, rng1_i, rng2_i, slD_s, slD_t, slN_l, isi_ss, isi_si, isi_sb, isi_sl, isi_st, isi_sn, isi_is, isi_ii, isi_ib, isi_il, isi_it, isi_in, isi_bs, isi_bi, isi_bb, isi_bl, isi_bt, isi_bn, isi_ls, isi_li, isi_lb, isi_ll, isi_lt, isi_ln, isi_ts, isi_ti, isi_tb, isi_tl, isi_tt, isi_tn, tl_s, tl_i, tl_b, tl_l, tl_t, tl_n, List.getElem?_cons_zero, List.getElem?_cons_succ, List.set_cons_zero, List.set_cons_succ, List.length_cons, List.length_nil, Nat.reduceAdd, Nat.reduceLT, Nat.reduceLeDiff, Nat.zero_lt_succ, D.bl.injEq, D.int.injEq, D.str.injEq, exists_eq_left', exists_eq_left, true_and, and_true, forall_const, Bool.true_and, Bool.and_true, Bool.false_eq_true, Bool.not_true, Bool.not_false, if_true, true_implies, false_implies, eq_self, Bool.true_eq_false, reduceCtorEq, decide_true, decide_eq_true_eq, decide_eq_false_iff_not, Decidable.not_not, beq_self_eq_true, not_true_eq_false, not_false_eq_true, Bool.not_eq_true', Bool.not_eq_false', Option.some.injEq, wipeD, List.map_cons, List.map_nil, List.foldr_cons, List.foldr_nil, tgName, tgTup, tgNames, Option.bind_some, and_self, e2, atI2_0])
    exact ⟨_, _, rfl, p.1, rfl, q1, q3⟩
theorem isL_rot {l : Nat} {w : Wd} {i : Nat} (h : isL l w) : isL l (rot w i) := fun c hc => by
  unfold rot at hc
  rw [List.mem_append] at hc
  exact hc.elim (fun h2 => h c (List.mem_of_mem_drop h2)) (fun h2 => h c (List.mem_of_mem_take h2))
theorem isL_up {l m : Nat} {w : Wd} (h : isL l w) (hm : l ≤ m) : isL m w := fun c hc => ⟨(h c hc).1, by have := (h c hc).2; omega⟩
theorem odd_rot {w : Wd} {i : Nat} (h : oddW w) : oddW (rot w i) := by unfold oddW at *; rw [rot_len]; exact h
theorem simple_rot {w : Wd} {i : Nat} (h : Simple w) (hi : i < w.length) : Simple (rot w i) := fun j h1 h2 e => by
  rw [rot_len] at h2
  exact h j h1 h2 (rot_back hi h2 e)
/-- where a ring is cut, and the turn there -/
theorem v_ring {w : Wd} (hw : isL 4 w) (h0 : 1 ≤ w.length) (h1 : w.length ≤ 99) (ho : oddW w) (hs : Simple w) : ∃ (x : Int) (a : Nat), x = (a : Int) ∧ a < w.length ∧ Sgl (rot w a) ∧ sem_cut [.str w] = .ok (.int x) ∧ sem_cut_turn [.str w] = .ok (.str (rot w a)) := by
  obtain ⟨d, e, a, rfl, ha, hc⟩ := v_cut hw h0 h1 ho hs
  refine ⟨0 + (a : Int), a, by omega, ha, hc, e, ?_⟩
  generalize hx : 0 + (a : Int) = x at e
  refine semP_wp rfl ?_
  unfold il_cut_turn
  show Rst.wp (evB _ _ ⟨[some (.im (.str w))], ⟨0, [], 0⟩⟩) _ _
  rw [w_scons]
  (try simp only [w_var, w_bor, w_kint, w_kstr, w_kbl, w_knon, w_gint, w_gstr, w_bin, w_binN, w_cmp, w_ix, w_chn, chnW_b, w_neg, w_notv, w_one, w_andv, w_orv, w_ite, w_tup, w_lst, w_cal, w_listN, w_tupC, w_intC, w_isi, w_isi2', w_sl, w_slN, w_pn, w_ps, w_nil, w_cons, w_tval, w_tcmp, w_tchn, w_tnot, w_tw, w_tone, w_tyes, w_tand, w_tor, w_seq, w_r1, w_r2, w_r3, w_fld, w_prop, w_enu, w_lrg, w_ltx, w_srt, Fl.f, w_snil, w_ret, w_retN, w_asg, w_own, w_expr, w_if, w_for, w_brk, w_cnt, w_pass, w_raise, w_app2, ownL_o, w_par, w_unp, w_lcAf, w_lcAt, wp_of_some, wp_of_ite, wp_ok, wp_bad, wp_exc, wp_nx, wp_rt, wp_bk, wp_ct, wp_xc, wp_no, getV, borV, Bo.f, BoN.f, Co.f, Bi.f, Tg.t, addD_i, addD_s, addD_t, catD_l, subD_i, mulD_i, mulD_s, mulD_t, repD_l, fdivD_i, modD_i, eqD_s, eqD_i, eqD_b, neD_s, neD_i, neD_b, ltD_i, gtD_i, leD_i, geD_i, isND_n, notND_n, nonD_n, nonD_s, nonD_i, nonD_b, nonD_l, nonD_t, inD_s, ninD_s, ixD_l, ixD_t, lenD_l, lenD_t, lenD_s, max2_i, min2_i, listL_l, listL_t, tupL_l, tupL_t, int1_i, items_l, items_t, items_s, rng1_i, rng2_i, slD_s, slD_t, slN_l, isi_ss, isi_si, isi_sb, isi_sl, isi_st, isi_sn, isi_is, isi_ii, isi_ib, isi_il, isi_it, isi_in, isi_bs, isi_bi, isi_bb, isi_bl, isi_bt, isi_bn, isi_ls, isi_li, isi_lb, isi_ll, isi_lt, isi_ln, isi_ts, isi_ti, isi_tb, isi_tl, isi_tt, isi_tn, tl_s, tl_i, tl_b, tl_l, tl_t, tl_n, List.getElem?_cons_zero, List.getElem?_cons_succ, List.set_cons_zero, List.set_cons_succ, List.length_cons, List.length_nil, Nat.reduceAdd, Nat.reduceLT, Nat.reduceLeDiff, Nat.zero_lt_succ, D.bl.injEq, D.int.injEq, D.str.injEq, exists_eq_left', exists_eq_left, true_and, and_true, forall_const, Bool.true_and, Bool.and_true, Bool.false_eq_true, Bool.not_true, Bool.not_false, if_true, true_implies, false_implies, eq_self, Bool.true_eq_false, reduceCtorEq, decide_true, decide_eq_true_eq, decide_eq_false_iff_not, Decidable.not_not, beq_self_eq_true, not_true_eq_false, not_false_eq_true, Bool.not_eq_true', Bool.not_eq_false', Option.some.injEq, wipeD, List.map_cons, List.map_nil, List.foldr_cons, List.foldr_nil, tgName, tgTup, tgNames, Option.bind_some, and_self])
  refine wp_call rfl ?_
  (try simp only [w_var, w_bor, w_kint, w_kstr, w_kbl, w_knon, w_gint, w_gstr, w_bin, w_binN, w_cmp, w_ix, w_chn, chnW_b, w_neg, w_notv, w_one, w_andv, w_orv, w_ite, w_tup, w_lst, w_cal, w_listN, w_tupC, w_intC, w_isi, w_isi2', w_sl, w_slN, w_pn, w_ps, w_nil, w_cons, w_tval, w_tcmp, w_tchn, w_tnot, w_tw, w_tone, w_tyes, w_tand, w_tor, w_seq, w_r1, w_r2, w_r3, w_fld, w_prop, w_enu, w_lrg, w_ltx, w_srt, Fl.f, w_snil, w_ret, w_retN, w_asg, w_own, w_expr, w_if, w_for, w_brk, w_cnt, w_pass, w_raise, w_app2, ownL_o, w_par, w_unp, w_lcAf, w_lcAt, wp_of_some, wp_of_ite, wp_ok, wp_bad, wp_exc, wp_nx, wp_rt, wp_bk, wp_ct, wp_xc, wp_no, getV, borV, Bo.f, BoN.f, Co.f, Bi.f, Tg.t, addD_i, addD_s, addD_t, catD_l, subD_i, mulD_i, mulD_s, mulD_t, repD_l, fdivD_i, modD_i, eqD_s, eqD_i, eqD_b, neD_s, neD_i, neD_b, ltD_i, gtD_i, leD_i, geD_i, isND_n, notND_n, nonD_n, nonD_s, nonD_i, nonD_b, nonD_l, nonD_t, inD_s, ninD_s, ixD_l, ixD_t, lenD_l, lenD_t, lenD_s, max2_i, min2_i, listL_l, listL_t, tupL_l, tupL_t, int1_i, items_l, items_t, items_s, rng1_i, rng2_i, slD_s, slD_t, slN_l, isi_ss, isi_si, isi_sb, isi_sl, isi_st, isi_sn, isi_is, isi_ii, isi_ib, isi_il, isi_it, isi_in, isi_bs, isi_bi, isi_bb, isi_bl, isi_bt, isi_bn, isi_ls, isi_li, isi_lb, isi_ll, isi_lt, isi_ln, isi_ts, isi_ti, isi_tb, isi_tl, isi_tt, isi_tn, tl_s, tl_i, tl_b, tl_l, tl_t, tl_n, List.getElem?_cons_zero, List.getElem?_cons_succ, List.set_cons_zero, List.set_cons_succ, List.length_cons, List.length_nil, Nat.reduceAdd, Nat.reduceLT, Nat.reduceLeDiff, Nat.zero_lt_succ, D.bl.injEq, D.int.injEq, D.str.injEq, exists_eq_left', exists_eq_left, true_and, and_true, forall_const, Bool.true_and, Bool.and_true, Bool.false_eq_true, Bool.not_true, Bool.not_false, if_true, true_implies, false_implies, eq_self, Bool.true_eq_false, reduceCtorEq, decide_true, decide_eq_true_eq, decide_eq_false_iff_not, Decidable.not_not, beq_self_eq_true, not_true_eq_false, not_false_eq_true, Bool.not_eq_true', Bool.not_eq_false', Option.some.injEq, wipeD, List.map_cons, List.map_nil, List.foldr_cons, List.foldr_nil, tgName, tgTup, tgNames, Option.bind_some, and_self])
  refine wp_call rfl ?_
  (try simp only [w_var, w_bor, w_kint, w_kstr, w_kbl, w_knon, w_gint, w_gstr, w_bin, w_binN, w_cmp, w_ix, w_chn, chnW_b, w_neg, w_notv, w_one, w_andv, w_orv, w_ite, w_tup, w_lst, w_cal, w_listN, w_tupC, w_intC, w_isi, w_isi2', w_sl, w_slN, w_pn, w_ps, w_nil, w_cons, w_tval, w_tcmp, w_tchn, w_tnot, w_tw, w_tone, w_tyes, w_tand, w_tor, w_seq, w_r1, w_r2, w_r3, w_fld, w_prop, w_enu, w_lrg, w_ltx, w_srt, Fl.f, w_snil, w_ret, w_retN, w_asg, w_own, w_expr, w_if, w_for, w_brk, w_cnt, w_pass, w_raise, w_app2, ownL_o, w_par, w_unp, w_lcAf, w_lcAt, wp_of_some, wp_of_ite, wp_ok, wp_bad, wp_exc, wp_nx, wp_rt, wp_bk, wp_ct, wp_xc, wp_no, getV, borV, Bo.f, BoN.f, Co.f, Bi.f, Tg.t, addD_i, addD_s, addD_t, catD_l, subD_i, mulD_i, mulD_s, mulD_t, repD_l, fdivD_i, modD_i, eqD_s, eqD_i, eqD_b, neD_s, neD_i, neD_b, ltD_i, gtD_i, leD_i, geD_i, isND_n, notND_n, nonD_n, nonD_s, nonD_i, nonD_b, nonD_l, nonD_t, inD_s, ninD_s, ixD_l, ixD_t, lenD_l, lenD_t, lenD_s, max2_i, min2_i, listL_l, listL_t, tupL_l, tupL_t, int1_i, items_l, items_t, items_s, rng1_i, rng2_i, slD_s, slD_t, slN_l, isi_ss, isi_si, isi_sb, isi_sl, isi_st, isi_sn, isi_is, isi_ii, isi_ib, isi_il, isi_it, isi_in, isi_bs, isi_bi, isi_bb, isi_bl, isi_bt, isi_bn, isi_ls, isi_li, isi_lb, isi_ll, isi_lt, isi_ln, isi_ts, isi_ti, isi_tb, isi_tl, isi_tt, isi_tn, tl_s, tl_i, tl_b, tl_l, tl_t, tl_n, List.getElem?_cons_zero, List.getElem?_cons_succ, List.set_cons_zero, List.set_cons_succ, List.length_cons, List.length_nil, Nat.reduceAdd, Nat.reduceLT, Nat.reduceLeDiff, Nat.zero_lt_succ, D.bl.injEq, D.int.injEq, D.str.injEq, exists_eq_left', exists_eq_left, true_and, and_true, forall_const, Bool.true_and, Bool.and_true, Bool.false_eq_true, Bool.not_true, Bool.not_false, if_true, true_implies, false_implies, eq_self, Bool.true_eq_false, reduceCtorEq, decide_true, decide_eq_true_eq, decide_eq_false_iff_not, Decidable.not_not, beq_self_eq_true, not_true_eq_false, not_false_eq_true, Bool.not_eq_true', Bool.not_eq_false', Option.some.injEq, wipeD, List.map_cons, List.map_nil, List.foldr_cons, List.foldr_nil, tgName, tgTup, tgNames, Option.bind_some, and_self])
  refine ⟨_, e, ?_⟩
  (try simp only [w_var, w_bor, w_kint, w_kstr, w_kbl, w_knon, w_gint, w_gstr, w_bin, w_binN, w_cmp, w_ix, w_chn, chnW_b, w_neg, w_notv, w_one, w_andv, w_orv, w_ite, w_tup, w_lst, w_cal, w_listN, w_tupC, w_intC, w_isi, w_isi2', w_sl, w_slN, w_pn, w_ps, w_nil, w_cons, w_tval, w_tcmp, w_tchn, w_tnot, w_tw, w_tone, w_tyes, w_tand, w_tor, w_seq, w_r1, w_r2, w_r3, w_fld, w_prop, w_enu, w_lrg, w_ltx, w_srt, Fl.f, w_snil, w_ret, w_retN, w_asg, w_own, w_expr, w_if, w_for, w_brk, w_cnt, w_pass, w_raise, w_app2, ownL_o, w_par, w_unp, w_lcAf, w_lcAt, wp_of_some, wp_of_ite, wp_ok, wp_bad, wp_exc, wp_nx, wp_rt, wp_bk, wp_ct, wp_xc, wp_no, getV, borV, Bo.f, BoN.f, Co.f, Bi.f, Tg.t, addD_i, addD_s, addD_t, catD_l, subD_i, mulD_i, mulD_s, mulD_t, repD_l, fdivD_i, modD_i, eqD_s, eqD_i, eqD_b, neD_s, neD_i, neD_b, ltD_i, gtD_i, leD_i, geD_i, isND_n, notND_n, nonD_n, nonD_s, nonD_i, nonD_b, nonD_l, nonD_t, inD_s, ninD_s, ixD_l, ixD_t, lenD_l, lenD_t, lenD_s, max2_i, min2_i, listL_l, listL_t, tupL_l, tupL_t, int1_i, items_l, items_t, items_s, rng1_i, rng2_i, slD_s, slD_t, slN_l, isi_ss, isi_si, isi_sb, isi_sl, isi_st, isi_sn, isi_is, isi_ii, isi_ib, isi_il, isi_it, isi_in, isi_bs, isi_bi, isi_bb, isi_bl, isi_bt, isi_bn, isi_ls, isi_li, isi_lb, isi_ll, isi_lt, isi_ln, isi_ts, isi_ti, isi_tb, isi_tl, isi_tt, isi_tn, tl_s, tl_i, tl_b, tl_l, tl_t, tl_n, List.getElem?_cons_zero, List.getElem?_cons_succ, List.set_cons_zero, List.set_cons_succ, List.length_cons, List.length_nil, Nat.reduceAdd, Nat.reduceLT, Nat.reduceLeDiff, Nat.zero_lt_succ, D.bl.injEq, D.int.injEq, D.str.injEq, exists_eq_left', exists_eq_left, true_and, and_true, forall_const, Bool.true_and, Bool.and_true, Bool.false_eq_true, Bool.not_true, Bool.not_false, if_true, true_implies, false_implies, eq_self, Bool.true_eq_false, reduceCtorEq, decide_true, decide_eq_true_eq, decide_eq_false_iff_not, Decidable.not_not, beq_self_eq_true, not_true_eq_false, not_false_eq_true, Bool.not_eq_true', Bool.not_eq_false', Option.some.injEq, wipeD, List.map_cons, List.map_nil, List.foldr_cons, List.foldr_nil, tgName, tgTup, tgNames, Option.bind_some, and_self])
  refine ⟨_, v_turn (by omega) (by omega), ?_⟩
  rw [show x.toNat = a by omega]
  exact ⟨_, rfl⟩
theorem abcd_take {l : Nat} (h : l ≤ 4) : [97, 98, 99, 100].take l = (List.range l).map (97 + ·) := by
  match l, h with
  | 0, _ => rfl
  | 1, _ => rfl
  | 2, _ => rfl
  | 3, _ => rfl
  | 4, _ => rfl
theorem v_all_words {x y : Int} {l n : Nat} (hx : x = (l : Int)) (hy : y = (n : Int)) (l0 : 1 ≤ l) (l1 : l ≤ 4) (n1 : n ≤ 100) (hp : l ^ n ≤ 100000) : sem_all_words [.int x, .int y] = .ok (.lst ((ascW l n).map .str)) := by
  refine semP_wp rfl ?_
  unfold il_all_words
  show Rst.wp (evB _ _ ⟨[some (.im (.int x)), some (.im (.int y)), none, none, none, none], ⟨0, [], 0⟩⟩) _ _
  rw [w_scons]
  (try simp only [w_var, w_bor, w_kint, w_kstr, w_kbl, w_knon, w_gint, w_gstr, w_bin, w_binN, w_cmp, w_ix, w_chn, chnW_b, w_neg, w_notv, w_one, w_andv, w_orv, w_ite, w_tup, w_lst, w_cal, w_listN, w_tupC, w_intC, w_isi, w_isi2', w_sl, w_slN, w_pn, w_ps, w_nil, w_cons, w_tval, w_tcmp, w_tchn, w_tnot, w_tw, w_tone, w_tyes, w_tand, w_tor, w_seq, w_r1, w_r2, w_r3, w_fld, w_prop, w_enu, w_lrg, w_ltx, w_srt, Fl.f, w_snil, w_ret, w_retN, w_asg, w_own, w_expr, w_if, w_for, w_brk, w_cnt, w_pass, w_raise, w_app2, ownL_o, w_par, w_unp, w_lcAf, w_lcAt, wp_of_some, wp_of_ite, wp_ok, wp_bad, wp_exc, wp_nx, wp_rt, wp_bk, wp_ct, wp_xc, wp_no, getV, borV, Bo.f, BoN.f, Co.f, Bi.f, Tg.t, addD_i, addD_s, addD_t, catD_l, subD_i, mulD_i, mulD_s, mulD_t, repD_l, fdivD_i, modD_i, eqD_s, eqD_i, eqD_b, neD_s, neD_i, neD_b, ltD_i, gtD_i, leD_i, geD_i, isND_n, notND_n, nonD_n, nonD_s, nonD_i, nonD_b, nonD_l, nonD_t, inD_s, ninD_s, ixD_l, ixD_t, lenD_l, lenD_t, lenD_s, max2_i, min2_i, listL_l, listL_t, tupL_l, tupL_t, int1_i, items_l, items_t, items_s, rng1_i, rng2_i, slD_s, slD_t, slN_l, isi_ss, isi_si, isi_sb, isi_sl, isi_st, isi_sn, isi_is, isi_ii, isi_ib, isi_il, isi_it, isi_in, isi_bs, isi_bi, isi_bb, isi_bl, isi_bt, isi_bn, isi_ls, isi_li, isi_lb, isi_ll, isi_lt, isi_ln, isi_ts, isi_ti, isi_tb, isi_tl, isi_tt, isi_tn, tl_s, tl_i, tl_b, tl_l, tl_t, tl_n, List.getElem?_cons_zero, List.getElem?_cons_succ, List.set_cons_zero, List.set_cons_succ, List.length_cons, List.length_nil, Nat.reduceAdd, Nat.reduceLT, Nat.reduceLeDiff, Nat.zero_lt_succ, D.bl.injEq, D.int.injEq, D.str.injEq, exists_eq_left', exists_eq_left, true_and, and_true, forall_const, Bool.true_and, Bool.and_true, Bool.false_eq_true, Bool.not_true, Bool.not_false, if_true, true_implies, false_implies, eq_self, Bool.true_eq_false, reduceCtorEq, decide_true, decide_eq_true_eq, decide_eq_false_iff_not, Decidable.not_not, beq_self_eq_true, not_true_eq_false, not_false_eq_true, Bool.not_eq_true', Bool.not_eq_false', Option.some.injEq, wipeD, List.map_cons, List.map_nil, List.foldr_cons, List.foldr_nil, tgName, tgTup, tgNames, Option.bind_some, and_self])
  refine ⟨by decide, ?_⟩
  rw [w_scons]
  (try simp only [w_var, w_bor, w_kint, w_kstr, w_kbl, w_knon, w_gint, w_gstr, w_bin, w_binN, w_cmp, w_ix, w_chn, chnW_b, w_neg, w_notv, w_one, w_andv, w_orv, w_ite, w_tup, w_lst, w_cal, w_listN, w_tupC, w_intC, w_isi, w_isi2', w_sl, w_slN, w_pn, w_ps, w_nil, w_cons, w_tval, w_tcmp, w_tchn, w_tnot, w_tw, w_tone, w_tyes, w_tand, w_tor, w_seq, w_r1, w_r2, w_r3, w_fld, w_prop, w_enu, w_lrg, w_ltx, w_srt, Fl.f, w_snil, w_ret, w_retN, w_asg, w_own, w_expr, w_if, w_for, w_brk, w_cnt, w_pass, w_raise, w_app2, ownL_o, w_par, w_unp, w_lcAf, w_lcAt, wp_of_some, wp_of_ite, wp_ok, wp_bad, wp_exc, wp_nx, wp_rt, wp_bk, wp_ct, wp_xc, wp_no, getV, borV, Bo.f, BoN.f, Co.f, Bi.f, Tg.t, addD_i, addD_s, addD_t, catD_l, subD_i, mulD_i, mulD_s, mulD_t, repD_l, fdivD_i, modD_i, eqD_s, eqD_i, eqD_b, neD_s, neD_i, neD_b, ltD_i, gtD_i, leD_i, geD_i, isND_n, notND_n, nonD_n, nonD_s, nonD_i, nonD_b, nonD_l, nonD_t, inD_s, ninD_s, ixD_l, ixD_t, lenD_l, lenD_t, lenD_s, max2_i, min2_i, listL_l, listL_t, tupL_l, tupL_t, int1_i, items_l, items_t, items_s, rng1_i, rng2_i, slD_s, slD_t, slN_l, isi_ss, isi_si, isi_sb, isi_sl, isi_st, isi_sn, isi_is, isi_ii, isi_ib, isi_il, isi_it, isi_in, isi_bs, isi_bi, isi_bb, isi_bl, isi_bt, isi_bn, isi_ls, isi_li, isi_lb, isi_ll, isi_lt, isi_ln, isi_ts, isi_ti, isi_tb, isi_tl, isi_tt, isi_tn, tl_s, tl_i, tl_b, tl_l, tl_t, tl_n, List.getElem?_cons_zero, List.getElem?_cons_succ, List.set_cons_zero, List.set_cons_succ, List.length_cons, List.length_nil, Nat.reduceAdd, Nat.reduceLT, Nat.reduceLeDiff, Nat.zero_lt_succ, D.bl.injEq, D.int.injEq, D.str.injEq, exists_eq_left', exists_eq_left, true_and, and_true, forall_const, Bool.true_and, Bool.and_true, Bool.false_eq_true, Bool.not_true, Bool.not_false, if_true, true_implies, false_implies, eq_self, Bool.true_eq_false, reduceCtorEq, decide_true, decide_eq_true_eq, decide_eq_false_iff_not, Decidable.not_not, beq_self_eq_true, not_true_eq_false, not_false_eq_true, Bool.not_eq_true', Bool.not_eq_false', Option.some.injEq, wipeD, List.map_cons, List.map_nil, List.foldr_cons, List.foldr_nil, tgName, tgTup, tgNames, Option.bind_some, and_self])
  refine ⟨by (first | omega | with_reducible assumption | (refine LN_le ?_; (try simp only [rot_len, List.length_append, List.length_drop, List.length_take, List.length_map, List.length_cons, List.length_nil, List.length_range, rangeD_len]); omega) | (refine LN_lt ?_; (try simp only [rot_len, List.length_append, List.length_drop, List.length_take, List.length_map, List.length_cons, List.length_nil, List.length_range, rangeD_len]); omega) | (refine big_le ?_ ?_ <;> (try simp only [rot_len, List.length_append, List.length_drop, List.length_take, List.length_map, List.length_cons, List.length_nil, List.length_range, rangeD_len]) <;> omega) | (refine big2 (big_le ?_ ?_) (big_le ?_ ?_) <;> (try simp only [rot_len, List.length_append, List.length_drop, List.length_take, List.length_map, List.length_cons, List.length_nil, List.length_range, rangeD_len]) <;> omega)), ?_⟩
  refine wp_forL (fun items s => ∃ (k : Nat) (a : Option DV), s = ⟨[some (.im (.int x)), some (.im (.int y)), some (.im (.lst ((ascW l k).map .str))), a, none, none], ⟨0, [], 0⟩⟩ ∧ items.length + k = n) _ _ ⟨0, _, rfl, by unfold rangeD; simp; omega⟩ ?_ ?_
  · rintro d r s ⟨k, a, rfl, hk⟩
    rw [List.length_cons] at hk
    have hle : l ^ k ≤ 100000 := Nat.le_trans (Nat.pow_le_pow_right l0 (by omega)) hp
    have hlen := ascW_len l k
    refine ⟨_, rfl, ?_⟩
    rw [w_scons]
    (try simp only [w_var, w_bor, w_kint, w_kstr, w_kbl, w_knon, w_gint, w_gstr, w_bin, w_binN, w_cmp, w_ix, w_chn, chnW_b, w_neg, w_notv, w_one, w_andv, w_orv, w_ite, w_tup, w_lst, w_cal, w_listN, w_tupC, w_intC, w_isi, w_isi2', w_sl, w_slN, w_pn, w_ps, w_nil, w_cons, w_tval, w_tcmp, w_tchn, w_tnot, w_tw, w_tone, w_tyes, w_tand, w_tor, w_seq, w_r1, w_r2, w_r3, w_fld, w_prop, w_enu, w_lrg, w_ltx, w_srt, Fl.f, w_snil, w_ret, w_retN, w_asg, w_own, w_expr, w_if, w_for, w_brk, w_cnt, w_pass, w_raise, w_app2, ownL_o, w_par, w_unp, w_lcAf, w_lcAt, wp_of_some, wp_of_ite, wp_ok, wp_bad, wp_exc, wp_nx, wp_rt, wp_bk, wp_ct, wp_xc, wp_no, getV, borV, Bo.f, BoN.f, Co.f, Bi.f, Tg.t, addD_i, addD_s, addD_t, catD_l, subD_i, mulD_i, mulD_s, mulD_t, repD_l, fdivD_i, modD_i, eqD_s, eqD_i, eqD_b, neD_s, neD_i, neD_b, ltD_i, gtD_i, leD_i, geD_i, isND_n, notND_n, nonD_n, nonD_s, nonD_i, nonD_b, nonD_l, nonD_t, inD_s, ninD_s, ixD_l, ixD_t, lenD_l, lenD_t, lenD_s, max2_i, min2_i, listL_l, listL_t, tupL_l, tupL_t, int1_i, items_l, items_t, items_s, rng1_i, rng2_i, slD_s, slD_t, slN_l, isi_ss, isi_si, isi_sb, isi_sl, isi_st, isi_sn, isi_is, isi_ii, isi_ib, isi_il, isi_it, isi_in, isi_bs, isi_bi, isi_bb, isi_bl, isi_bt, isi_bn, isi_ls, isi_li, isi_lb, isi_ll, isi_lt, isi_ln, isi_ts, isi_ti, isi_tb, isi_tl, isi_tt, isi_tn, tl_s, tl_i, tl_b, tl_l, tl_t, tl_n, List.getElem?_cons_zero, List.getElem?_cons_succ, List.set_cons_zero, List.set_cons_succ, List.length_cons, List.length_nil, Nat.reduceAdd, Nat.reduceLT, Nat.reduceLeDiff, Nat.zero_lt_succ, D.bl.injEq, D.int.injEq, D.str.injEq, exists_eq_left', exists_eq_left, true_and, and_true, forall_const, Bool.true_and, Bool.and_true, Bool.false_eq_true, Bool.not_true, Bool.not_false, if_true, true_implies, false_implies, eq_self, Bool.true_eq_false, reduceCtorEq, decide_true, decide_eq_true_eq, decide_eq_false_iff_not, Decidable.not_not, beq_self_eq_true, not_true_eq_false, not_false_eq_true, Bool.not_eq_true', Bool.not_eq_false', Option.some.injEq, wipeD, List.map_cons, List.map_nil, List.foldr_cons, List.foldr_nil, tgName, tgTup, tgNames, Option.bind_some, and_self])
    refine wp_lc2 (by decide) (fun w : Wd => .str w) (fun _ => (List.range l).map (97 + ·)) (fun _ c => .str [c]) (fun w c => .str (w ++ [c])) 4 (fun _ => by simp; exact l1) ?_
    (try simp only [w_var, w_bor, w_kint, w_kstr, w_kbl, w_knon, w_gint, w_gstr, w_bin, w_binN, w_cmp, w_ix, w_chn, chnW_b, w_neg, w_notv, w_one, w_andv, w_orv, w_ite, w_tup, w_lst, w_cal, w_listN, w_tupC, w_intC, w_isi, w_isi2', w_sl, w_slN, w_pn, w_ps, w_nil, w_cons, w_tval, w_tcmp, w_tchn, w_tnot, w_tw, w_tone, w_tyes, w_tand, w_tor, w_seq, w_r1, w_r2, w_r3, w_fld, w_prop, w_enu, w_lrg, w_ltx, w_srt, Fl.f, w_snil, w_ret, w_retN, w_asg, w_own, w_expr, w_if, w_for, w_brk, w_cnt, w_pass, w_raise, w_app2, ownL_o, w_par, w_unp, w_lcAf, w_lcAt, wp_of_some, wp_of_ite, wp_ok, wp_bad, wp_exc, wp_nx, wp_rt, wp_bk, wp_ct, wp_xc, wp_no, getV, borV, Bo.f, BoN.f, Co.f, Bi.f, Tg.t, addD_i, addD_s, addD_t, catD_l, subD_i, mulD_i, mulD_s, mulD_t, repD_l, fdivD_i, modD_i, eqD_s, eqD_i, eqD_b, neD_s, neD_i, neD_b, ltD_i, gtD_i, leD_i, geD_i, isND_n, notND_n, nonD_n, nonD_s, nonD_i, nonD_b, nonD_l, nonD_t, inD_s, ninD_s, ixD_l, ixD_t, lenD_l, lenD_t, lenD_s, max2_i, min2_i, listL_l, listL_t, tupL_l, tupL_t, int1_i, items_l, items_t, items_s, rng1_i, rng2_i, slD_s, slD_t, slN_l, isi_ss, isi_si, isi_sb, isi_sl, isi_st, isi_sn, isi_is, isi_ii, isi_ib, isi_il, isi_it, isi_in, isi_bs, isi_bi, isi_bb, isi_bl, isi_bt, isi_bn, isi_ls, isi_li, isi_lb, isi_ll, isi_lt, isi_ln, isi_ts, isi_ti, isi_tb, isi_tl, isi_tt, isi_tn, tl_s, tl_i, tl_b, tl_l, tl_t, tl_n, List.getElem?_cons_zero, List.getElem?_cons_succ, List.set_cons_zero, List.set_cons_succ, List.length_cons, List.length_nil, Nat.reduceAdd, Nat.reduceLT, Nat.reduceLeDiff, Nat.zero_lt_succ, D.bl.injEq, D.int.injEq, D.str.injEq, exists_eq_left', exists_eq_left, true_and, and_true, forall_const, Bool.true_and, Bool.and_true, Bool.false_eq_true, Bool.not_true, Bool.not_false, if_true, true_implies, false_implies, eq_self, Bool.true_eq_false, reduceCtorEq, decide_true, decide_eq_true_eq, decide_eq_false_iff_not, Decidable.not_not, beq_self_eq_true, not_true_eq_false, not_false_eq_true, Bool.not_eq_true', Bool.not_eq_false', Option.some.injEq, wipeD, List.map_cons, List.map_nil, List.foldr_cons, List.foldr_nil, tgName, tgTup, tgNames, Option.bind_some, and_self])
    refine ⟨rfl, ascW l k, rfl, LN_le (by omega), fun w hw => ?_, ?_⟩
    · have hwl := (ascW_mem.mp hw).1
      have hkn : k ≤ 100 := by omega
      (try simp only [w_var, w_bor, w_kint, w_kstr, w_kbl, w_knon, w_gint, w_gstr, w_bin, w_binN, w_cmp, w_ix, w_chn, chnW_b, w_neg, w_notv, w_one, w_andv, w_orv, w_ite, w_tup, w_lst, w_cal, w_listN, w_tupC, w_intC, w_isi, w_isi2', w_sl, w_slN, w_pn, w_ps, w_nil, w_cons, w_tval, w_tcmp, w_tchn, w_tnot, w_tw, w_tone, w_tyes, w_tand, w_tor, w_seq, w_r1, w_r2, w_r3, w_fld, w_prop, w_enu, w_lrg, w_ltx, w_srt, Fl.f, w_snil, w_ret, w_retN, w_asg, w_own, w_expr, w_if, w_for, w_brk, w_cnt, w_pass, w_raise, w_app2, ownL_o, w_par, w_unp, w_lcAf, w_lcAt, wp_of_some, wp_of_ite, wp_ok, wp_bad, wp_exc, wp_nx, wp_rt, wp_bk, wp_ct, wp_xc, wp_no, getV, borV, Bo.f, BoN.f, Co.f, Bi.f, Tg.t, addD_i, addD_s, addD_t, catD_l, subD_i, mulD_i, mulD_s, mulD_t, repD_l, fdivD_i, modD_i, eqD_s, eqD_i, eqD_b, neD_s, neD_i, neD_b, ltD_i, gtD_i, leD_i, geD_i, isND_n, notND_n, nonD_n, nonD_s, nonD_i, nonD_b, nonD_l, nonD_t, inD_s, ninD_s, ixD_l, ixD_t, lenD_l, lenD_t, lenD_s, max2_i, min2_i, listL_l, listL_t, tupL_l, tupL_t, int1_i, items_l, items_t, items_s, rng1_i, rng2_i, slD_s, slD_t, slN_l, isi_ss, isi_si, isi_sb, isi_sl, isi_st, isi_sn, isi_is, isi_ii, isi_ib, isi_il, isi_it, isi_in, isi_bs, isi_bi, isi_bb, isi_bl, isi_bt, isi_bn, isi_ls, isi_li, isi_lb, isi_ll, isi_lt, isi_ln, isi_ts, isi_ti, isi_tb, isi_tl, isi_tt, isi_tn, tl_s, tl_i, tl_b, tl_l, tl_t, tl_n, List.getElem?_cons_zero, List.getElem?_cons_succ, List.set_cons_zero, List.set_cons_succ, List.length_cons, List.length_nil, Nat.reduceAdd, Nat.reduceLT, Nat.reduceLeDiff, Nat.zero_lt_succ, D.bl.injEq, D.int.injEq, D.str.injEq, exists_eq_left', exists_eq_left, true_and, and_true, forall_const, Bool.true_and, Bool.and_true, Bool.false_eq_true, Bool.not_true, Bool.not_false, if_true, true_implies, false_implies, eq_self, Bool.true_eq_false, reduceCtorEq, decide_true, decide_eq_true_eq, decide_eq_false_iff_not, Decidable.not_not, beq_self_eq_true, not_true_eq_false, not_false_eq_true, Bool.not_eq_true', Bool.not_eq_false', Option.some.injEq, wipeD, List.map_cons, List.map_nil, List.foldr_cons, List.foldr_nil, tgName, tgTup, tgNames, Option.bind_some, and_self, cut_to _ (show (0 : Int) ≤ x by omega)])
      refine ⟨by decide, by rw [show x.toNat = l by omega, abcd_take l1], rfl, fun c hc => ⟨_, rfl, ?_⟩⟩
      have hadd : addD (.str w) (.str [c]) = some (.str (w ++ [c])) := by rw [addD_s, if_pos (LN_le (by simp; omega))]
      (try simp only [w_var, w_bor, w_kint, w_kstr, w_kbl, w_knon, w_gint, w_gstr, w_bin, w_binN, w_cmp, w_ix, w_chn, chnW_b, w_neg, w_notv, w_one, w_andv, w_orv, w_ite, w_tup, w_lst, w_cal, w_listN, w_tupC, w_intC, w_isi, w_isi2', w_sl, w_slN, w_pn, w_ps, w_nil, w_cons, w_tval, w_tcmp, w_tchn, w_tnot, w_tw, w_tone, w_tyes, w_tand, w_tor, w_seq, w_r1, w_r2, w_r3, w_fld, w_prop, w_enu, w_lrg, w_ltx, w_srt, Fl.f, w_snil, w_ret, w_retN, w_asg, w_own, w_expr, w_if, w_for, w_brk, w_cnt, w_pass, w_raise, w_app2, ownL_o, w_par, w_unp, w_lcAf, w_lcAt, wp_of_some, wp_of_ite, wp_ok, wp_bad, wp_exc, wp_nx, wp_rt, wp_bk, wp_ct, wp_xc, wp_no, getV, borV, Bo.f, BoN.f, Co.f, Bi.f, Tg.t, addD_i, addD_s, addD_t, catD_l, subD_i, mulD_i, mulD_s, mulD_t, repD_l, fdivD_i, modD_i, eqD_s, eqD_i, eqD_b, neD_s, neD_i, neD_b, ltD_i, gtD_i, leD_i, geD_i, isND_n, notND_n, nonD_n, nonD_s, nonD_i, nonD_b, nonD_l, nonD_t, inD_s, ninD_s, ixD_l, ixD_t, lenD_l, lenD_t, lenD_s, max2_i, min2_i, listL_l, listL_t, tupL_l, tupL_t, int1_i, items_l, items_t, items_s, rng1_i, rng2_i, slD_s, slD_t, slN_l, isi_ss, isi_si, isi_sb, isi_sl, isi_st, isi_sn, isi_is, isi_ii, isi_ib, isi_il, isi_it, isi_in, isi_bs, isi_bi, isi_bb, isi_bl, isi_bt, isi_bn, isi_ls, isi_li, isi_lb, isi_ll, isi_lt, isi_ln, isi_ts, isi_ti, isi_tb, isi_tl, isi_tt, isi_tn, tl_s, tl_i, tl_b, tl_l, tl_t, tl_n, List.getElem?_cons_zero, List.getElem?_cons_succ, List.set_cons_zero, List.set_cons_succ, List.length_cons, List.length_nil, Nat.reduceAdd, Nat.reduceLT, Nat.reduceLeDiff, Nat.zero_lt_succ, D.bl.injEq, D.int.injEq, D.str.injEq, exists_eq_left', exists_eq_left, true_and, and_true, forall_const, Bool.true_and, Bool.and_true, Bool.false_eq_true, Bool.not_true, Bool.not_false, if_true, true_implies, false_implies, eq_self, Bool.true_eq_false, reduceCtorEq, decide_true, decide_eq_true_eq, decide_eq_false_iff_not, Decidable.not_not, beq_self_eq_true, not_true_eq_false, not_false_eq_true, Bool.not_eq_true', Bool.not_eq_false', Option.some.injEq, wipeD, List.map_cons, List.map_nil, List.foldr_cons, List.foldr_nil, tgName, tgTup, tgNames, Option.bind_some, and_self, Tg.vs])
      exact LN_le (by omega)
    · refine ⟨k + 1, some (.im d), ?_, by omega⟩
      have e : ((ascW l k).flatMap fun w => ((List.range l).map (97 + ·)).map fun c => D.str (w ++ [c])) = (ascW l (k + 1)).map D.str := by
        show _ = ((ascW l k).flatMap fun w => (List.range l).map fun c => w ++ [97 + c]).map D.str
        rw [List.map_flatMap]
        congr 1
        funext w
        rw [List.map_map, List.map_map]
        rfl
      rw [e]
  · rintro s ⟨k, a, rfl, hk⟩
    have : k = n := by simpa using hk
    subst this
    (try simp only [w_var, w_bor, w_kint, w_kstr, w_kbl, w_knon, w_gint, w_gstr, w_bin, w_binN, w_cmp, w_ix, w_chn, chnW_b, w_neg, w_notv, w_one, w_andv, w_orv, w_ite, w_tup, w_lst, w_cal, w_listN, w_tupC, w_intC, w_isi, w_isi2', w_sl, w_slN, w_pn, w_ps, w_nil, w_cons, w_tval, w_tcmp, w_tchn, w_tnot, w_tw, w_tone, w_tyes, w_tand, w_tor, w_seq, w_r1, w_r2, w_r3, w_fld, w_prop, w_enu, w_lrg, w_ltx, w_srt, Fl.f, w_snil, w_ret, w_retN, w_asg, w_own, w_expr, w_if, w_for, w_brk, w_cnt, w_pass, w_raise, w_app2, ownL_o, w_par, w_unp, w_lcAf, w_lcAt, wp_of_some, wp_of_ite, wp_ok, wp_bad, wp_exc, wp_nx, wp_rt, wp_bk, wp_ct, wp_xc, wp_no, getV, borV, Bo.f, BoN.f, Co.f, Bi.f, Tg.t, addD_i, addD_s, addD_t, catD_l, subD_i, mulD_i, mulD_s, mulD_t, repD_l, fdivD_i, modD_i, eqD_s, eqD_i, eqD_b, neD_s, neD_i, neD_b, ltD_i, gtD_i, leD_i, geD_i, isND_n, notND_n, nonD_n, nonD_s, nonD_i, nonD_b, nonD_l, nonD_t, inD_s, ninD_s, ixD_l, ixD_t, lenD_l, lenD_t, lenD_s, max2_i, min2_i, listL_l, listL_t, tupL_l, tupL_t, int1_i, items_l, items_t, items_s, rng1_i, rng2_i, slD_s, slD_t, slN_l, isi_ss, isi_si, isi_sb, isi_sl, isi_st, isi_sn, isi_is, isi_ii, isi_ib, isi_il, isi_it, isi_in, isi_bs, isi_bi, isi_bb, isi_bl, isi_bt, isi_bn, isi_ls, isi_li, isi_lb, isi_ll, isi_lt, isi_ln, isi_ts, isi_ti, isi_tb, isi_tl, isi_tt, isi_tn, tl_s, tl_i, tl_b, tl_l, tl_t, tl_n, List.getElem?_cons_zero, List.getElem?_cons_succ, List.set_cons_zero, List.set_cons_succ, List.length_cons, List.length_nil, Nat.reduceAdd, Nat.reduceLT, Nat.reduceLeDiff, Nat.zero_lt_succ, D.bl.injEq, D.int.injEq, D.str.injEq, exists_eq_left', exists_eq_left, true_and, and_true, forall_const, Bool.true_and, Bool.and_true, Bool.false_eq_true, Bool.not_true, Bool.not_false, if_true, true_implies, false_implies, eq_self, Bool.true_eq_false, reduceCtorEq, decide_true, decide_eq_true_eq, decide_eq_false_iff_not, Decidable.not_not, beq_self_eq_true, not_true_eq_false, not_false_eq_true, Bool.not_eq_true', Bool.not_eq_false', Option.some.injEq, wipeD, List.map_cons, List.map_nil, List.foldr_cons, List.foldr_nil, tgName, tgTup, tgNames, Option.bind_some, and_self])
    exact ⟨_, rfl⟩
theorem tab06_at {l n : Nat} (h : (l, n) ∈ sizes06) : ascB (codeL l n) = true ∧ sem_rings [.int (l : Int), .int (n : Int)] = .ok (.int (((codeL l n).length : Nat) : Int)) ∧ sem_power [.int (l : Int), .int (n : Int)] = .ok (.int (((l ^ n : Nat) : Nat) : Int)) ∧ l ^ n ≤ 2187 ∧ n % 2 = 1 ∧ 2 ≤ l ∧ l ≤ 4 ∧ n ≤ 11 ∧ (codeL l n).length ≤ 2187 := by
  have t := tab06
  rw [List.all_eq_true] at t
  have := t _ h
  simp only [Bool.and_eq_true, decide_eq_true_eq] at this
  obtain ⟨⟨⟨⟨⟨⟨⟨⟨h1, h2⟩, h3⟩, h4⟩, h5⟩, h6⟩, h7⟩, h8⟩, h9⟩ := this
  exact ⟨h1, isI6_eq h2, isI6_eq h3, h4, h5, h6, h7, h8, h9⟩
theorem v_code_of {x y : Int} {l n : Nat} (hx : x = (l : Int)) (hy : y = (n : Int)) (h : (l, n) ∈ sizes06) : sem_code_of [.int x, .int y] = .ok (.lst ((codeL l n).map .str)) := by
  obtain ⟨_, _, t3, t4, t5, t6, t7, t8, _⟩ := tab06_at h
  rw [← hx, ← hy] at t3
  obtain ⟨p, hp⟩ : ∃ p : Int, p = (((l ^ n : Nat) : Nat) : Int) := ⟨_, rfl⟩
  rw [← hp] at t3
  have hp2 : p ≤ 2187 := by omega
  have hw := v_all_words hx hy (by omega) t7 (by omega) (by omega)
  clear hp
  refine semP_wp rfl ?_
  unfold il_code_of
  show Rst.wp (evB _ _ ⟨[some (.im (.int x)), some (.im (.int y)), none], ⟨0, [], 0⟩⟩) _ _
  rw [w_scons]
  (try simp only [w_var, w_bor, w_kint, w_kstr, w_kbl, w_knon, w_gint, w_gstr, w_bin, w_binN, w_cmp, w_ix, w_chn, chnW_b, w_neg, w_notv, w_one, w_andv, w_orv, w_ite, w_tup, w_lst, w_cal, w_listN, w_tupC, w_intC, w_isi, w_isi2', w_sl, w_slN, w_pn, w_ps, w_nil, w_cons, w_tval, w_tcmp, w_tchn, w_tnot, w_tw, w_tone, w_tyes, w_tand, w_tor, w_seq, w_r1, w_r2, w_r3, w_fld, w_prop, w_enu, w_lrg, w_ltx, w_srt, Fl.f, w_snil, w_ret, w_retN, w_asg, w_own, w_expr, w_if, w_for, w_brk, w_cnt, w_pass, w_raise, w_app2, ownL_o, w_par, w_unp, w_lcAf, w_lcAt, wp_of_some, wp_of_ite, wp_ok, wp_bad, wp_exc, wp_nx, wp_rt, wp_bk, wp_ct, wp_xc, wp_no, getV, borV, Bo.f, BoN.f, Co.f, Bi.f, Tg.t, addD_i, addD_s, addD_t, catD_l, subD_i, mulD_i, mulD_s, mulD_t, repD_l, fdivD_i, modD_i, eqD_s, eqD_i, eqD_b, neD_s, neD_i, neD_b, ltD_i, gtD_i, leD_i, geD_i, isND_n, notND_n, nonD_n, nonD_s, nonD_i, nonD_b, nonD_l, nonD_t, inD_s, ninD_s, ixD_l, ixD_t, lenD_l, lenD_t, lenD_s, max2_i, min2_i, listL_l, listL_t, tupL_l, tupL_t, int1_i, items_l, items_t, items_s, rng1_i, rng2_i, slD_s, slD_t, slN_l, isi_ss, isi_si, isi_sb, isi_sl, isi_st, isi_sn, isi_is, isi_ii, isi_ib, isi_il, isi_it, isi_in, isi_bs, isi_bi, isi_bb, isi_bl, isi_bt, isi_bn, isi_ls, isi_li, isi_lb, isi_ll, isi_lt, isi_ln, isi_ts, isi_ti, isi_tb, isi_tl, isi_tt, isi_tn, tl_s, tl_i, tl_b, tl_l, tl_t, tl_n, List.getElem?_cons_zero, List.getElem?_cons_succ, List.set_cons_zero, List.set_cons_succ, List.length_cons, List.length_nil, Nat.reduceAdd, Nat.reduceLT, Nat.reduceLeDiff, Nat.zero_lt_succ, D.bl.injEq, D.int.injEq, D.str.injEq, exists_eq_left', exists_eq_left, true_and, and_true, forall_const, Bool.true_and, Bool.and_true, Bool.false_eq_true, Bool.not_true, Bool.not_false, if_true, true_implies, false_implies, eq_self, Bool.true_eq_false, reduceCtorEq, decide_true, decide_eq_true_eq, decide_eq_false_iff_not, Decidable.not_not, beq_self_eq_true, not_true_eq_false, not_false_eq_true, Bool.not_eq_true', Bool.not_eq_false', Option.some.injEq, wipeD, List.map_cons, List.map_nil, List.foldr_cons, List.foldr_nil, tgName, tgTup, tgNames, Option.bind_some, and_self])
  refine wp_call rfl ?_
  (try simp only [w_var, w_bor, w_kint, w_kstr, w_kbl, w_knon, w_gint, w_gstr, w_bin, w_binN, w_cmp, w_ix, w_chn, chnW_b, w_neg, w_notv, w_one, w_andv, w_orv, w_ite, w_tup, w_lst, w_cal, w_listN, w_tupC, w_intC, w_isi, w_isi2', w_sl, w_slN, w_pn, w_ps, w_nil, w_cons, w_tval, w_tcmp, w_tchn, w_tnot, w_tw, w_tone, w_tyes, w_tand, w_tor, w_seq, w_r1, w_r2, w_r3, w_fld, w_prop, w_enu, w_lrg, w_ltx, w_srt, Fl.f, w_snil, w_ret, w_retN, w_asg, w_own, w_expr, w_if, w_for, w_brk, w_cnt, w_pass, w_raise, w_app2, ownL_o, w_par, w_unp, w_lcAf, w_lcAt, wp_of_some, wp_of_ite, wp_ok, wp_bad, wp_exc, wp_nx, wp_rt, wp_bk, wp_ct, wp_xc, wp_no, getV, borV, Bo.f, BoN.f, Co.f, Bi.f, Tg.t, addD_i, addD_s, addD_t, catD_l, subD_i, mulD_i, mulD_s, mulD_t, repD_l, fdivD_i, modD_i, eqD_s, eqD_i, eqD_b, neD_s, neD_i, neD_b, ltD_i, gtD_i, leD_i, geD_i, isND_n, notND_n, nonD_n, nonD_s, nonD_i, nonD_b, nonD_l, nonD_t, inD_s, ninD_s, ixD_l, ixD_t, lenD_l, lenD_t, lenD_s, max2_i, min2_i, listL_l, listL_t, tupL_l, tupL_t, int1_i, items_l, items_t, items_s, rng1_i, rng2_i, slD_s, slD_t, slN_l, isi_ss, isi_si, isi_sb, isi_sl, isi_st, isi_sn, isi_is, isi_ii, isi_ib, isi_il, isi_it, isi_in, isi_bs, isi_bi, isi_bb, isi_bl, isi_bt, isi_bn, isi_ls, isi_li, isi_lb, isi_ll, isi_lt, isi_ln, isi_ts, isi_ti, isi_tb, isi_tl, isi_tt, isi_tn, tl_s, tl_i, tl_b, tl_l, tl_t, tl_n, List.getElem?_cons_zero, List.getElem?_cons_succ, List.set_cons_zero, List.set_cons_succ, List.length_cons, List.length_nil, Nat.reduceAdd, Nat.reduceLT, Nat.reduceLeDiff, Nat.zero_lt_succ, D.bl.injEq, D.int.injEq, D.str.injEq, exists_eq_left', exists_eq_left, true_and, and_true, forall_const, Bool.true_and, Bool.and_true, Bool.false_eq_true, Bool.not_true, Bool.not_false, if_true, true_implies, false_implies, eq_self, Bool.true_eq_false, reduceCtorEq, decide_true, decide_eq_true_eq, decide_eq_false_iff_not, Decidable.not_not, beq_self_eq_true, not_true_eq_false, not_false_eq_true, Bool.not_eq_true', Bool.not_eq_false', Option.some.injEq, wipeD, List.map_cons, List.map_nil, List.foldr_cons, List.foldr_nil, tgName, tgTup, tgNames, Option.bind_some, and_self])
  refine ⟨by decide, _, v_isint, ?_⟩
  rw [show decide ((2 : Int) ≤ x ∧ x ≤ ((4 : Nat) : Int)) = true from decide_eq_true (by omega)]
  (try simp only [w_var, w_bor, w_kint, w_kstr, w_kbl, w_knon, w_gint, w_gstr, w_bin, w_binN, w_cmp, w_ix, w_chn, chnW_b, w_neg, w_notv, w_one, w_andv, w_orv, w_ite, w_tup, w_lst, w_cal, w_listN, w_tupC, w_intC, w_isi, w_isi2', w_sl, w_slN, w_pn, w_ps, w_nil, w_cons, w_tval, w_tcmp, w_tchn, w_tnot, w_tw, w_tone, w_tyes, w_tand, w_tor, w_seq, w_r1, w_r2, w_r3, w_fld, w_prop, w_enu, w_lrg, w_ltx, w_srt, Fl.f, w_snil, w_ret, w_retN, w_asg, w_own, w_expr, w_if, w_for, w_brk, w_cnt, w_pass, w_raise, w_app2, ownL_o, w_par, w_unp, w_lcAf, w_lcAt, wp_of_some, wp_of_ite, wp_ok, wp_bad, wp_exc, wp_nx, wp_rt, wp_bk, wp_ct, wp_xc, wp_no, getV, borV, Bo.f, BoN.f, Co.f, Bi.f, Tg.t, addD_i, addD_s, addD_t, catD_l, subD_i, mulD_i, mulD_s, mulD_t, repD_l, fdivD_i, modD_i, eqD_s, eqD_i, eqD_b, neD_s, neD_i, neD_b, ltD_i, gtD_i, leD_i, geD_i, isND_n, notND_n, nonD_n, nonD_s, nonD_i, nonD_b, nonD_l, nonD_t, inD_s, ninD_s, ixD_l, ixD_t, lenD_l, lenD_t, lenD_s, max2_i, min2_i, listL_l, listL_t, tupL_l, tupL_t, int1_i, items_l, items_t, items_s, rng1_i, rng2_i, slD_s, slD_t, slN_l, isi_ss, isi_si, isi_sb, isi_sl, isi_st, isi_sn, isi_is, isi_ii, isi_ib, isi_il, isi_it, isi_in, isi_bs, isi_bi, isi_bb, isi_bl, isi_bt, isi_bn, isi_ls, isi_li, isi_lb, isi_ll, isi_lt, isi_ln, isi_ts, isi_ti, isi_tb, isi_tl, isi_tt, isi_tn, tl_s, tl_i, tl_b, tl_l, tl_t, tl_n, List.getElem?_cons_zero, List.getElem?_cons_succ, List.set_cons_zero, List.set_cons_succ, List.length_cons, List.length_nil, Nat.reduceAdd, Nat.reduceLT, Nat.reduceLeDiff, Nat.zero_lt_succ, D.bl.injEq, D.int.injEq, D.str.injEq, exists_eq_left', exists_eq_left, true_and, and_true, forall_const, Bool.true_and, Bool.and_true, Bool.false_eq_true, Bool.not_true, Bool.not_false, if_true, true_implies, false_implies, eq_self, Bool.true_eq_false, reduceCtorEq, decide_true, decide_eq_true_eq, decide_eq_false_iff_not, Decidable.not_not, beq_self_eq_true, not_true_eq_false, not_false_eq_true, Bool.not_eq_true', Bool.not_eq_false', Option.some.injEq, wipeD, List.map_cons, List.map_nil, List.foldr_cons, List.foldr_nil, tgName, tgTup, tgNames, Option.bind_some, and_self])
  refine wp_call rfl ?_
  (try simp only [w_var, w_bor, w_kint, w_kstr, w_kbl, w_knon, w_gint, w_gstr, w_bin, w_binN, w_cmp, w_ix, w_chn, chnW_b, w_neg, w_notv, w_one, w_andv, w_orv, w_ite, w_tup, w_lst, w_cal, w_listN, w_tupC, w_intC, w_isi, w_isi2', w_sl, w_slN, w_pn, w_ps, w_nil, w_cons, w_tval, w_tcmp, w_tchn, w_tnot, w_tw, w_tone, w_tyes, w_tand, w_tor, w_seq, w_r1, w_r2, w_r3, w_fld, w_prop, w_enu, w_lrg, w_ltx, w_srt, Fl.f, w_snil, w_ret, w_retN, w_asg, w_own, w_expr, w_if, w_for, w_brk, w_cnt, w_pass, w_raise, w_app2, ownL_o, w_par, w_unp, w_lcAf, w_lcAt, wp_of_some, wp_of_ite, wp_ok, wp_bad, wp_exc, wp_nx, wp_rt, wp_bk, wp_ct, wp_xc, wp_no, getV, borV, Bo.f, BoN.f, Co.f, Bi.f, Tg.t, addD_i, addD_s, addD_t, catD_l, subD_i, mulD_i, mulD_s, mulD_t, repD_l, fdivD_i, modD_i, eqD_s, eqD_i, eqD_b, neD_s, neD_i, neD_b, ltD_i, gtD_i, leD_i, geD_i, isND_n, notND_n, nonD_n, nonD_s, nonD_i, nonD_b, nonD_l, nonD_t, inD_s, ninD_s, ixD_l, ixD_t, lenD_l, lenD_t, lenD_s, max2_i, min2_i, listL_l, listL_t, tupL_l, tupL_t, int1_i, items_l, items_t, items_s, rng1_i, rng2_i, slD_s, slD_t, slN_l, isi_ss, isi_si, isi_sb, isi_sl, isi_st, isi_sn, isi_is, isi_ii, isi_ib, isi_il, isi_it, isi_in, isi_bs, isi_bi, isi_bb, isi_bl, isi_bt, isi_bn, isi_ls, isi_li, isi_lb, isi_ll, isi_lt, isi_ln, isi_ts, isi_ti, isi_tb, isi_tl, isi_tt, isi_tn, tl_s, tl_i, tl_b, tl_l, tl_t, tl_n, List.getElem?_cons_zero, List.getElem?_cons_succ, List.set_cons_zero, List.set_cons_succ, List.length_cons, List.length_nil, Nat.reduceAdd, Nat.reduceLT, Nat.reduceLeDiff, Nat.zero_lt_succ, D.bl.injEq, D.int.injEq, D.str.injEq, exists_eq_left', exists_eq_left, true_and, and_true, forall_const, Bool.true_and, Bool.and_true, Bool.false_eq_true, Bool.not_true, Bool.not_false, if_true, true_implies, false_implies, eq_self, Bool.true_eq_false, reduceCtorEq, decide_true, decide_eq_true_eq, decide_eq_false_iff_not, Decidable.not_not, beq_self_eq_true, not_true_eq_false, not_false_eq_true, Bool.not_eq_true', Bool.not_eq_false', Option.some.injEq, wipeD, List.map_cons, List.map_nil, List.foldr_cons, List.foldr_nil, tgName, tgTup, tgNames, Option.bind_some, and_self])
  refine ⟨_, v_isint, ?_⟩
  rw [show decide ((1 : Int) ≤ y ∧ y ≤ 99) = true from decide_eq_true (by omega)]
  (try simp only [w_var, w_bor, w_kint, w_kstr, w_kbl, w_knon, w_gint, w_gstr, w_bin, w_binN, w_cmp, w_ix, w_chn, chnW_b, w_neg, w_notv, w_one, w_andv, w_orv, w_ite, w_tup, w_lst, w_cal, w_listN, w_tupC, w_intC, w_isi, w_isi2', w_sl, w_slN, w_pn, w_ps, w_nil, w_cons, w_tval, w_tcmp, w_tchn, w_tnot, w_tw, w_tone, w_tyes, w_tand, w_tor, w_seq, w_r1, w_r2, w_r3, w_fld, w_prop, w_enu, w_lrg, w_ltx, w_srt, Fl.f, w_snil, w_ret, w_retN, w_asg, w_own, w_expr, w_if, w_for, w_brk, w_cnt, w_pass, w_raise, w_app2, ownL_o, w_par, w_unp, w_lcAf, w_lcAt, wp_of_some, wp_of_ite, wp_ok, wp_bad, wp_exc, wp_nx, wp_rt, wp_bk, wp_ct, wp_xc, wp_no, getV, borV, Bo.f, BoN.f, Co.f, Bi.f, Tg.t, addD_i, addD_s, addD_t, catD_l, subD_i, mulD_i, mulD_s, mulD_t, repD_l, fdivD_i, modD_i, eqD_s, eqD_i, eqD_b, neD_s, neD_i, neD_b, ltD_i, gtD_i, leD_i, geD_i, isND_n, notND_n, nonD_n, nonD_s, nonD_i, nonD_b, nonD_l, nonD_t, inD_s, ninD_s, ixD_l, ixD_t, lenD_l, lenD_t, lenD_s, max2_i, min2_i, listL_l, listL_t, tupL_l, tupL_t, int1_i, items_l, items_t, items_s, rng1_i, rng2_i, slD_s, slD_t, slN_l, isi_ss, isi_si, isi_sb, isi_sl, isi_st, isi_sn, isi_is, isi_ii, isi_ib, isi_il, isi_it, isi_in, isi_bs, isi_bi, isi_bb, isi_bl, isi_bt, isi_bn, isi_ls, isi_li, isi_lb, isi_ll, isi_lt, isi_ln, isi_ts, isi_ti, isi_tb, isi_tl, isi_tt, isi_tn, tl_s, tl_i, tl_b, tl_l, tl_t, tl_n, List.getElem?_cons_zero, List.getElem?_cons_succ, List.set_cons_zero, List.set_cons_succ, List.length_cons, List.length_nil, Nat.reduceAdd, Nat.reduceLT, Nat.reduceLeDiff, Nat.zero_lt_succ, D.bl.injEq, D.int.injEq, D.str.injEq, exists_eq_left', exists_eq_left, true_and, and_true, forall_const, Bool.true_and, Bool.and_true, Bool.false_eq_true, Bool.not_true, Bool.not_false, if_true, true_implies, false_implies, eq_self, Bool.true_eq_false, reduceCtorEq, decide_true, decide_eq_true_eq, decide_eq_false_iff_not, Decidable.not_not, beq_self_eq_true, not_true_eq_false, not_false_eq_true, Bool.not_eq_true', Bool.not_eq_false', Option.some.injEq, wipeD, List.map_cons, List.map_nil, List.foldr_cons, List.foldr_nil, tgName, tgTup, tgNames, Option.bind_some, and_self])
  refine And.intro (by decide) (And.intro (fun h => absurd h (by omega)) (fun _ => ?_))
  rw [w_scons]
  (try simp only [w_var, w_bor, w_kint, w_kstr, w_kbl, w_knon, w_gint, w_gstr, w_bin, w_binN, w_cmp, w_ix, w_chn, chnW_b, w_neg, w_notv, w_one, w_andv, w_orv, w_ite, w_tup, w_lst, w_cal, w_listN, w_tupC, w_intC, w_isi, w_isi2', w_sl, w_slN, w_pn, w_ps, w_nil, w_cons, w_tval, w_tcmp, w_tchn, w_tnot, w_tw, w_tone, w_tyes, w_tand, w_tor, w_seq, w_r1, w_r2, w_r3, w_fld, w_prop, w_enu, w_lrg, w_ltx, w_srt, Fl.f, w_snil, w_ret, w_retN, w_asg, w_own, w_expr, w_if, w_for, w_brk, w_cnt, w_pass, w_raise, w_app2, ownL_o, w_par, w_unp, w_lcAf, w_lcAt, wp_of_some, wp_of_ite, wp_ok, wp_bad, wp_exc, wp_nx, wp_rt, wp_bk, wp_ct, wp_xc, wp_no, getV, borV, Bo.f, BoN.f, Co.f, Bi.f, Tg.t, addD_i, addD_s, addD_t, catD_l, subD_i, mulD_i, mulD_s, mulD_t, repD_l, fdivD_i, modD_i, eqD_s, eqD_i, eqD_b, neD_s, neD_i, neD_b, ltD_i, gtD_i, leD_i, geD_i, isND_n, notND_n, nonD_n, nonD_s, nonD_i, nonD_b, nonD_l, nonD_t, inD_s, ninD_s, ixD_l, ixD_t, lenD_l, lenD_t, lenD_s, max2_i, min2_i, listL_l, listL_t, tupL_l, tupL_t, int1_i, items_l, items_t, items_s, rng1_i, rng2_i, slD_s, slD_t, slN_l, isi_ss, isi_si, isi_sb, isi_sl, isi_st, isi_sn, isi_is, isi_ii, isi_ib, isi_il, isi_it, isi_in, isi_bs, isi_bi, isi_bb, isi_bl, isi_bt, isi_bn, isi_ls, isi_li, isi_lb, isi_ll, isi_lt, isi_ln, isi_ts, isi_ti, isi_tb, isi_tl, isi_tt, isi_tn, tl_s, tl_i, tl_b, tl_l, tl_t, tl_n, List.getElem?_cons_zero, List.getElem?_cons_succ, List.set_cons_zero, List.set_cons_succ, List.length_cons, List.length_nil, Nat.reduceAdd, Nat.reduceLT, Nat.reduceLeDiff, Nat.zero_lt_succ, D.bl.injEq, D.int.injEq, D.str.injEq, exists_eq_left', exists_eq_left, true_and, and_true, forall_const, Bool.true_and, Bool.and_true, Bool.false_eq_true, Bool.not_true, Bool.not_false, if_true, true_implies, false_implies, eq_self, Bool.true_eq_false, reduceCtorEq, decide_true, decide_eq_true_eq, decide_eq_false_iff_not, Decidable.not_not, beq_self_eq_true, not_true_eq_false, not_false_eq_true, Bool.not_eq_true', Bool.not_eq_false', Option.some.injEq, wipeD, List.map_cons, List.map_nil, List.foldr_cons, List.foldr_nil, tgName, tgTup, tgNames, Option.bind_some, and_self])
  refine wp_call rfl ?_
  (try simp only [w_var, w_bor, w_kint, w_kstr, w_kbl, w_knon, w_gint, w_gstr, w_bin, w_binN, w_cmp, w_ix, w_chn, chnW_b, w_neg, w_notv, w_one, w_andv, w_orv, w_ite, w_tup, w_lst, w_cal, w_listN, w_tupC, w_intC, w_isi, w_isi2', w_sl, w_slN, w_pn, w_ps, w_nil, w_cons, w_tval, w_tcmp, w_tchn, w_tnot, w_tw, w_tone, w_tyes, w_tand, w_tor, w_seq, w_r1, w_r2, w_r3, w_fld, w_prop, w_enu, w_lrg, w_ltx, w_srt, Fl.f, w_snil, w_ret, w_retN, w_asg, w_own, w_expr, w_if, w_for, w_brk, w_cnt, w_pass, w_raise, w_app2, ownL_o, w_par, w_unp, w_lcAf, w_lcAt, wp_of_some, wp_of_ite, wp_ok, wp_bad, wp_exc, wp_nx, wp_rt, wp_bk, wp_ct, wp_xc, wp_no, getV, borV, Bo.f, BoN.f, Co.f, Bi.f, Tg.t, addD_i, addD_s, addD_t, catD_l, subD_i, mulD_i, mulD_s, mulD_t, repD_l, fdivD_i, modD_i, eqD_s, eqD_i, eqD_b, neD_s, neD_i, neD_b, ltD_i, gtD_i, leD_i, geD_i, isND_n, notND_n, nonD_n, nonD_s, nonD_i, nonD_b, nonD_l, nonD_t, inD_s, ninD_s, ixD_l, ixD_t, lenD_l, lenD_t, lenD_s, max2_i, min2_i, listL_l, listL_t, tupL_l, tupL_t, int1_i, items_l, items_t, items_s, rng1_i, rng2_i, slD_s, slD_t, slN_l, isi_ss, isi_si, isi_sb, isi_sl, isi_st, isi_sn, isi_is, isi_ii, isi_ib, isi_il, isi_it, isi_in, isi_bs, isi_bi, isi_bb, isi_bl, isi_bt, isi_bn, isi_ls, isi_li, isi_lb, isi_ll, isi_lt, isi_ln, isi_ts, isi_ti, isi_tb, isi_tl, isi_tt, isi_tn, tl_s, tl_i, tl_b, tl_l, tl_t, tl_n, List.getElem?_cons_zero, List.getElem?_cons_succ, List.set_cons_zero, List.set_cons_succ, List.length_cons, List.length_nil, Nat.reduceAdd, Nat.reduceLT, Nat.reduceLeDiff, Nat.zero_lt_succ, D.bl.injEq, D.int.injEq, D.str.injEq, exists_eq_left', exists_eq_left, true_and, and_true, forall_const, Bool.true_and, Bool.and_true, Bool.false_eq_true, Bool.not_true, Bool.not_false, if_true, true_implies, false_implies, eq_self, Bool.true_eq_false, reduceCtorEq, decide_true, decide_eq_true_eq, decide_eq_false_iff_not, Decidable.not_not, beq_self_eq_true, not_true_eq_false, not_false_eq_true, Bool.not_eq_true', Bool.not_eq_false', Option.some.injEq, wipeD, List.map_cons, List.map_nil, List.foldr_cons, List.foldr_nil, tgName, tgTup, tgNames, Option.bind_some, and_self])
  refine ⟨_, t3, ?_⟩
  (try simp only [w_var, w_bor, w_kint, w_kstr, w_kbl, w_knon, w_gint, w_gstr, w_bin, w_binN, w_cmp, w_ix, w_chn, chnW_b, w_neg, w_notv, w_one, w_andv, w_orv, w_ite, w_tup, w_lst, w_cal, w_listN, w_tupC, w_intC, w_isi, w_isi2', w_sl, w_slN, w_pn, w_ps, w_nil, w_cons, w_tval, w_tcmp, w_tchn, w_tnot, w_tw, w_tone, w_tyes, w_tand, w_tor, w_seq, w_r1, w_r2, w_r3, w_fld, w_prop, w_enu, w_lrg, w_ltx, w_srt, Fl.f, w_snil, w_ret, w_retN, w_asg, w_own, w_expr, w_if, w_for, w_brk, w_cnt, w_pass, w_raise, w_app2, ownL_o, w_par, w_unp, w_lcAf, w_lcAt, wp_of_some, wp_of_ite, wp_ok, wp_bad, wp_exc, wp_nx, wp_rt, wp_bk, wp_ct, wp_xc, wp_no, getV, borV, Bo.f, BoN.f, Co.f, Bi.f, Tg.t, addD_i, addD_s, addD_t, catD_l, subD_i, mulD_i, mulD_s, mulD_t, repD_l, fdivD_i, modD_i, eqD_s, eqD_i, eqD_b, neD_s, neD_i, neD_b, ltD_i, gtD_i, leD_i, geD_i, isND_n, notND_n, nonD_n, nonD_s, nonD_i, nonD_b, nonD_l, nonD_t, inD_s, ninD_s, ixD_l, ixD_t, lenD_l, lenD_t, lenD_s, max2_i, min2_i, listL_l, listL_t, tupL_l, tupL_t, int1_i, items_l, items_t, items_s, rng1_i, rng2_i, slD_s, slD_t, slN_l, isi_ss, isi_si, isi_sb, isi_sl, isi_st, isi_sn, isi_is, isi_ii, isi_ib, isi_il, isi_it, isi_in, isi_bs, isi_bi, isi_bb, isi_bl, isi_bt, isi_bn, isi_ls, isi_li, isi_lb, isi_ll, isi_lt, isi_ln, isi_ts, isi_ti, isi_tb, isi_tl, isi_tt, isi_tn, tl_s, tl_i, tl_b, tl_l, tl_t, tl_n, List.getElem?_cons_zero, List.getElem?_cons_succ, List.set_cons_zero, List.set_cons_succ, List.length_cons, List.length_nil, Nat.reduceAdd, Nat.reduceLT, Nat.reduceLeDiff, Nat.zero_lt_succ, D.bl.injEq, D.int.injEq, D.str.injEq, exists_eq_left', exists_eq_left, true_and, and_true, forall_const, Bool.true_and, Bool.and_true, Bool.false_eq_true, Bool.not_true, Bool.not_false, if_true, true_implies, false_implies, eq_self, Bool.true_eq_false, reduceCtorEq, decide_true, decide_eq_true_eq, decide_eq_false_iff_not, Decidable.not_not, beq_self_eq_true, not_true_eq_false, not_false_eq_true, Bool.not_eq_true', Bool.not_eq_false', Option.some.injEq, wipeD, List.map_cons, List.map_nil, List.foldr_cons, List.foldr_nil, tgName, tgTup, tgNames, Option.bind_some, and_self])
  refine And.intro (fun h => absurd h (by omega)) (fun _ => ?_)
  rw [w_scons]
  (try simp only [w_var, w_bor, w_kint, w_kstr, w_kbl, w_knon, w_gint, w_gstr, w_bin, w_binN, w_cmp, w_ix, w_chn, chnW_b, w_neg, w_notv, w_one, w_andv, w_orv, w_ite, w_tup, w_lst, w_cal, w_listN, w_tupC, w_intC, w_isi, w_isi2', w_sl, w_slN, w_pn, w_ps, w_nil, w_cons, w_tval, w_tcmp, w_tchn, w_tnot, w_tw, w_tone, w_tyes, w_tand, w_tor, w_seq, w_r1, w_r2, w_r3, w_fld, w_prop, w_enu, w_lrg, w_ltx, w_srt, Fl.f, w_snil, w_ret, w_retN, w_asg, w_own, w_expr, w_if, w_for, w_brk, w_cnt, w_pass, w_raise, w_app2, ownL_o, w_par, w_unp, w_lcAf, w_lcAt, wp_of_some, wp_of_ite, wp_ok, wp_bad, wp_exc, wp_nx, wp_rt, wp_bk, wp_ct, wp_xc, wp_no, getV, borV, Bo.f, BoN.f, Co.f, Bi.f, Tg.t, addD_i, addD_s, addD_t, catD_l, subD_i, mulD_i, mulD_s, mulD_t, repD_l, fdivD_i, modD_i, eqD_s, eqD_i, eqD_b, neD_s, neD_i, neD_b, ltD_i, gtD_i, leD_i, geD_i, isND_n, notND_n, nonD_n, nonD_s, nonD_i, nonD_b, nonD_l, nonD_t, inD_s, ninD_s, ixD_l, ixD_t, lenD_l, lenD_t, lenD_s, max2_i, min2_i, listL_l, listL_t, tupL_l, tupL_t, int1_i, items_l, items_t, items_s, rng1_i, rng2_i, slD_s, slD_t, slN_l, isi_ss, isi_si, isi_sb, isi_sl, isi_st, isi_sn, isi_is, isi_ii, isi_ib, isi_il, isi_it, isi_in, isi_bs, isi_bi, isi_bb, isi_bl, isi_bt, isi_bn, isi_ls, isi_li, isi_lb, isi_ll, isi_lt, isi_ln, isi_ts, isi_ti, isi_tb, isi_tl, isi_tt, isi_tn, tl_s, tl_i, tl_b, tl_l, tl_t, tl_n, List.getElem?_cons_zero, List.getElem?_cons_succ, List.set_cons_zero, List.set_cons_succ, List.length_cons, List.length_nil, Nat.reduceAdd, Nat.reduceLT, Nat.reduceLeDiff, Nat.zero_lt_succ, D.bl.injEq, D.int.injEq, D.str.injEq, exists_eq_left', exists_eq_left, true_and, and_true, forall_const, Bool.true_and, Bool.and_true, Bool.false_eq_true, Bool.not_true, Bool.not_false, if_true, true_implies, false_implies, eq_self, Bool.true_eq_false, reduceCtorEq, decide_true, decide_eq_true_eq, decide_eq_false_iff_not, Decidable.not_not, beq_self_eq_true, not_true_eq_false, not_false_eq_true, Bool.not_eq_true', Bool.not_eq_false', Option.some.injEq, wipeD, List.map_cons, List.map_nil, List.foldr_cons, List.foldr_nil, tgName, tgTup, tgNames, Option.bind_some, and_self])
  refine wp_lcf (fun w : Wd => .str w) sglB (fun w => .str w) ?_
  (try simp only [w_var, w_bor, w_kint, w_kstr, w_kbl, w_knon, w_gint, w_gstr, w_bin, w_binN, w_cmp, w_ix, w_chn, chnW_b, w_neg, w_notv, w_one, w_andv, w_orv, w_ite, w_tup, w_lst, w_cal, w_listN, w_tupC, w_intC, w_isi, w_isi2', w_sl, w_slN, w_pn, w_ps, w_nil, w_cons, w_tval, w_tcmp, w_tchn, w_tnot, w_tw, w_tone, w_tyes, w_tand, w_tor, w_seq, w_r1, w_r2, w_r3, w_fld, w_prop, w_enu, w_lrg, w_ltx, w_srt, Fl.f, w_snil, w_ret, w_retN, w_asg, w_own, w_expr, w_if, w_for, w_brk, w_cnt, w_pass, w_raise, w_app2, ownL_o, w_par, w_unp, w_lcAf, w_lcAt, wp_of_some, wp_of_ite, wp_ok, wp_bad, wp_exc, wp_nx, wp_rt, wp_bk, wp_ct, wp_xc, wp_no, getV, borV, Bo.f, BoN.f, Co.f, Bi.f, Tg.t, addD_i, addD_s, addD_t, catD_l, subD_i, mulD_i, mulD_s, mulD_t, repD_l, fdivD_i, modD_i, eqD_s, eqD_i, eqD_b, neD_s, neD_i, neD_b, ltD_i, gtD_i, leD_i, geD_i, isND_n, notND_n, nonD_n, nonD_s, nonD_i, nonD_b, nonD_l, nonD_t, inD_s, ninD_s, ixD_l, ixD_t, lenD_l, lenD_t, lenD_s, max2_i, min2_i, listL_l, listL_t, tupL_l, tupL_t, int1_i, items_l, items_t, items_s, rng1_i, rng2_i, slD_s, slD_t, slN_l, isi_ss, isi_si, isi_sb, isi_sl, isi_st, isi_sn, isi_is, isi_ii, isi_ib, isi_il, isi_it, isi_in, isi_bs, isi_bi, isi_bb, isi_bl, isi_bt, isi_bn, isi_ls, isi_li, isi_lb, isi_ll, isi_lt, isi_ln, isi_ts, isi_ti, isi_tb, isi_tl, isi_tt, isi_tn, tl_s, tl_i, tl_b, tl_l, tl_t, tl_n, List.getElem?_cons_zero, List.getElem?_cons_succ, List.set_cons_zero, List.set_cons_succ, List.length_cons, List.length_nil, Nat.reduceAdd, Nat.reduceLT, Nat.reduceLeDiff, Nat.zero_lt_succ, D.bl.injEq, D.int.injEq, D.str.injEq, exists_eq_left', exists_eq_left, true_and, and_true, forall_const, Bool.true_and, Bool.and_true, Bool.false_eq_true, Bool.not_true, Bool.not_false, if_true, true_implies, false_implies, eq_self, Bool.true_eq_false, reduceCtorEq, decide_true, decide_eq_true_eq, decide_eq_false_iff_not, Decidable.not_not, beq_self_eq_true, not_true_eq_false, not_false_eq_true, Bool.not_eq_true', Bool.not_eq_false', Option.some.injEq, wipeD, List.map_cons, List.map_nil, List.foldr_cons, List.foldr_nil, tgName, tgTup, tgNames, Option.bind_some, and_self])
  refine wp_call rfl ?_
  (try simp only [w_var, w_bor, w_kint, w_kstr, w_kbl, w_knon, w_gint, w_gstr, w_bin, w_binN, w_cmp, w_ix, w_chn, chnW_b, w_neg, w_notv, w_one, w_andv, w_orv, w_ite, w_tup, w_lst, w_cal, w_listN, w_tupC, w_intC, w_isi, w_isi2', w_sl, w_slN, w_pn, w_ps, w_nil, w_cons, w_tval, w_tcmp, w_tchn, w_tnot, w_tw, w_tone, w_tyes, w_tand, w_tor, w_seq, w_r1, w_r2, w_r3, w_fld, w_prop, w_enu, w_lrg, w_ltx, w_srt, Fl.f, w_snil, w_ret, w_retN, w_asg, w_own, w_expr, w_if, w_for, w_brk, w_cnt, w_pass, w_raise, w_app2, ownL_o, w_par, w_unp, w_lcAf, w_lcAt, wp_of_some, wp_of_ite, wp_ok, wp_bad, wp_exc, wp_nx, wp_rt, wp_bk, wp_ct, wp_xc, wp_no, getV, borV, Bo.f, BoN.f, Co.f, Bi.f, Tg.t, addD_i, addD_s, addD_t, catD_l, subD_i, mulD_i, mulD_s, mulD_t, repD_l, fdivD_i, modD_i, eqD_s, eqD_i, eqD_b, neD_s, neD_i, neD_b, ltD_i, gtD_i, leD_i, geD_i, isND_n, notND_n, nonD_n, nonD_s, nonD_i, nonD_b, nonD_l, nonD_t, inD_s, ninD_s, ixD_l, ixD_t, lenD_l, lenD_t, lenD_s, max2_i, min2_i, listL_l, listL_t, tupL_l, tupL_t, int1_i, items_l, items_t, items_s, rng1_i, rng2_i, slD_s, slD_t, slN_l, isi_ss, isi_si, isi_sb, isi_sl, isi_st, isi_sn, isi_is, isi_ii, isi_ib, isi_il, isi_it, isi_in, isi_bs, isi_bi, isi_bb, isi_bl, isi_bt, isi_bn, isi_ls, isi_li, isi_lb, isi_ll, isi_lt, isi_ln, isi_ts, isi_ti, isi_tb, isi_tl, isi_tt, isi_tn, tl_s, tl_i, tl_b, tl_l, tl_t, tl_n, List.getElem?_cons_zero, List.getElem?_cons_succ, List.set_cons_zero, List.set_cons_succ, List.length_cons, List.length_nil, Nat.reduceAdd, Nat.reduceLT, Nat.reduceLeDiff, Nat.zero_lt_succ, D.bl.injEq, D.int.injEq, D.str.injEq, exists_eq_left', exists_eq_left, true_and, and_true, forall_const, Bool.true_and, Bool.and_true, Bool.false_eq_true, Bool.not_true, Bool.not_false, if_true, true_implies, false_implies, eq_self, Bool.true_eq_false, reduceCtorEq, decide_true, decide_eq_true_eq, decide_eq_false_iff_not, Decidable.not_not, beq_self_eq_true, not_true_eq_false, not_false_eq_true, Bool.not_eq_true', Bool.not_eq_false', Option.some.injEq, wipeD, List.map_cons, List.map_nil, List.foldr_cons, List.foldr_nil, tgName, tgTup, tgNames, Option.bind_some, and_self])
  refine ⟨_, hw, ?_⟩
  (try simp only [w_var, w_bor, w_kint, w_kstr, w_kbl, w_knon, w_gint, w_gstr, w_bin, w_binN, w_cmp, w_ix, w_chn, chnW_b, w_neg, w_notv, w_one, w_andv, w_orv, w_ite, w_tup, w_lst, w_cal, w_listN, w_tupC, w_intC, w_isi, w_isi2', w_sl, w_slN, w_pn, w_ps, w_nil, w_cons, w_tval, w_tcmp, w_tchn, w_tnot, w_tw, w_tone, w_tyes, w_tand, w_tor, w_seq, w_r1, w_r2, w_r3, w_fld, w_prop, w_enu, w_lrg, w_ltx, w_srt, Fl.f, w_snil, w_ret, w_retN, w_asg, w_own, w_expr, w_if, w_for, w_brk, w_cnt, w_pass, w_raise, w_app2, ownL_o, w_par, w_unp, w_lcAf, w_lcAt, wp_of_some, wp_of_ite, wp_ok, wp_bad, wp_exc, wp_nx, wp_rt, wp_bk, wp_ct, wp_xc, wp_no, getV, borV, Bo.f, BoN.f, Co.f, Bi.f, Tg.t, addD_i, addD_s, addD_t, catD_l, subD_i, mulD_i, mulD_s, mulD_t, repD_l, fdivD_i, modD_i, eqD_s, eqD_i, eqD_b, neD_s, neD_i, neD_b, ltD_i, gtD_i, leD_i, geD_i, isND_n, notND_n, nonD_n, nonD_s, nonD_i, nonD_b, nonD_l, nonD_t, inD_s, ninD_s, ixD_l, ixD_t, lenD_l, lenD_t, lenD_s, max2_i, min2_i, listL_l, listL_t, tupL_l, tupL_t, int1_i, items_l, items_t, items_s, rng1_i, rng2_i, slD_s, slD_t, slN_l, isi_ss, isi_si, isi_sb, isi_sl, isi_st, isi_sn, isi_is, isi_ii, isi_ib, isi_il, isi_it, isi_in, isi_bs, isi_bi, isi_bb, isi_bl, isi_bt, isi_bn, isi_ls, isi_li, isi_lb, isi_ll, isi_lt, isi_ln, isi_ts, isi_ti, isi_tb, isi_tl, isi_tt, isi_tn, tl_s, tl_i, tl_b, tl_l, tl_t, tl_n, List.getElem?_cons_zero, List.getElem?_cons_succ, List.set_cons_zero, List.set_cons_succ, List.length_cons, List.length_nil, Nat.reduceAdd, Nat.reduceLT, Nat.reduceLeDiff, Nat.zero_lt_succ, D.bl.injEq, D.int.injEq, D.str.injEq, exists_eq_left', exists_eq_left, true_and, and_true, forall_const, Bool.true_and, Bool.and_true, Bool.false_eq_true, Bool.not_true, Bool.not_false, if_true, true_implies, false_implies, eq_self, Bool.true_eq_false, reduceCtorEq, decide_true, decide_eq_true_eq, decide_eq_false_iff_not, Decidable.not_not, beq_self_eq_true, not_true_eq_false, not_false_eq_true, Bool.not_eq_true', Bool.not_eq_false', Option.some.injEq, wipeD, List.map_cons, List.map_nil, List.foldr_cons, List.foldr_nil, tgName, tgTup, tgNames, Option.bind_some, and_self])
  refine ⟨rfl, ascW l n, rfl, LN_le (by rw [ascW_len]; omega), fun w hm => ?_, ?_⟩
  · obtain ⟨w1, w2⟩ := ascW_mem.mp hm
    have hL4 : isL 4 w := isL_up w2 t7
    have ho : oddW w := by unfold oddW; omega
    refine wp_call rfl ?_
    (try simp only [w_var, w_bor, w_kint, w_kstr, w_kbl, w_knon, w_gint, w_gstr, w_bin, w_binN, w_cmp, w_ix, w_chn, chnW_b, w_neg, w_notv, w_one, w_andv, w_orv, w_ite, w_tup, w_lst, w_cal, w_listN, w_tupC, w_intC, w_isi, w_isi2', w_sl, w_slN, w_pn, w_ps, w_nil, w_cons, w_tval, w_tcmp, w_tchn, w_tnot, w_tw, w_tone, w_tyes, w_tand, w_tor, w_seq, w_r1, w_r2, w_r3, w_fld, w_prop, w_enu, w_lrg, w_ltx, w_srt, Fl.f, w_snil, w_ret, w_retN, w_asg, w_own, w_expr, w_if, w_for, w_brk, w_cnt, w_pass, w_raise, w_app2, ownL_o, w_par, w_unp, w_lcAf, w_lcAt, wp_of_some, wp_of_ite, wp_ok, wp_bad, wp_exc, wp_nx, wp_rt, wp_bk, wp_ct, wp_xc, wp_no, getV, borV, Bo.f, BoN.f, Co.f, Bi.f, Tg.t, addD_i, addD_s, addD_t, catD_l, subD_i, mulD_i, mulD_s, mulD_t, repD_l, fdivD_i, modD_i, eqD_s, eqD_i, eqD_b, neD_s, neD_i, neD_b, ltD_i, gtD_i, leD_i, geD_i, isND_n, notND_n, nonD_n, nonD_s, nonD_i, nonD_b, nonD_l, nonD_t, inD_s, ninD_s, ixD_l, ixD_t, lenD_l, lenD_t, lenD_s, max2_i, min2_i, listL_l, listL_t, tupL_l, tupL_t, int1_i, items_l, items_t, items_s, rng1_i, rng2_i, slD_s, slD_t, slN_l, isi_ss, isi_si, isi_sb, isi_sl, isi_st, isi_sn, isi_is, isi_ii, isi_ib, isi_il, isi_it, isi_in, isi_bs, isi_bi, isi_bb, isi_bl, isi_bt, isi_bn, isi_ls, isi_li, isi_lb, isi_ll, isi_lt, isi_ln, isi_ts, isi_ti, isi_tb, isi_tl, isi_tt, isi_tn, tl_s, tl_i, tl_b, tl_l, tl_t, tl_n, List.getElem?_cons_zero, List.getElem?_cons_succ, List.set_cons_zero, List.set_cons_succ, List.length_cons, List.length_nil, Nat.reduceAdd, Nat.reduceLT, Nat.reduceLeDiff, Nat.zero_lt_succ, D.bl.injEq, D.int.injEq, D.str.injEq, exists_eq_left', exists_eq_left, true_and, and_true, forall_const, Bool.true_and, Bool.and_true, Bool.false_eq_true, Bool.not_true, Bool.not_false, if_true, true_implies, false_implies, eq_self, Bool.true_eq_false, reduceCtorEq, decide_true, decide_eq_true_eq, decide_eq_false_iff_not, Decidable.not_not, beq_self_eq_true, not_true_eq_false, not_false_eq_true, Bool.not_eq_true', Bool.not_eq_false', Option.some.injEq, wipeD, List.map_cons, List.map_nil, List.foldr_cons, List.foldr_nil, tgName, tgTup, tgNames, Option.bind_some, and_self])
    refine ⟨_, v_is_simple hL4 (by omega) (by omega), ?_⟩
    (try simp only [w_var, w_bor, w_kint, w_kstr, w_kbl, w_knon, w_gint, w_gstr, w_bin, w_binN, w_cmp, w_ix, w_chn, chnW_b, w_neg, w_notv, w_one, w_andv, w_orv, w_ite, w_tup, w_lst, w_cal, w_listN, w_tupC, w_intC, w_isi, w_isi2', w_sl, w_slN, w_pn, w_ps, w_nil, w_cons, w_tval, w_tcmp, w_tchn, w_tnot, w_tw, w_tone, w_tyes, w_tand, w_tor, w_seq, w_r1, w_r2, w_r3, w_fld, w_prop, w_enu, w_lrg, w_ltx, w_srt, Fl.f, w_snil, w_ret, w_retN, w_asg, w_own, w_expr, w_if, w_for, w_brk, w_cnt, w_pass, w_raise, w_app2, ownL_o, w_par, w_unp, w_lcAf, w_lcAt, wp_of_some, wp_of_ite, wp_ok, wp_bad, wp_exc, wp_nx, wp_rt, wp_bk, wp_ct, wp_xc, wp_no, getV, borV, Bo.f, BoN.f, Co.f, Bi.f, Tg.t, addD_i, addD_s, addD_t, catD_l, subD_i, mulD_i, mulD_s, mulD_t, repD_l, fdivD_i, modD_i, eqD_s, eqD_i, eqD_b, neD_s, neD_i, neD_b, ltD_i, gtD_i, leD_i, geD_i, isND_n, notND_n, nonD_n, nonD_s, nonD_i, nonD_b, nonD_l, nonD_t, inD_s, ninD_s, ixD_l, ixD_t, lenD_l, lenD_t, lenD_s, max2_i, min2_i, listL_l, listL_t, tupL_l, tupL_t, int1_i, items_l, items_t, items_s, rng1_i, rng2_i, slD_s, slD_t, slN_l, isi_ss, isi_si, isi_sb, isi_sl, isi_st, isi_sn, isi_is, isi_ii, isi_ib, isi_il, isi_it, isi_in, isi_bs, isi_bi, isi_bb, isi_bl, isi_bt, isi_bn, isi_ls, isi_li, isi_lb, isi_ll, isi_lt, isi_ln, isi_ts, isi_ti, isi_tb, isi_tl, isi_tt, isi_tn, tl_s, tl_i, tl_b, tl_l, tl_t, tl_n, List.getElem?_cons_zero, List.getElem?_cons_succ, List.set_cons_zero, List.set_cons_succ, List.length_cons, List.length_nil, Nat.reduceAdd, Nat.reduceLT, Nat.reduceLeDiff, Nat.zero_lt_succ, D.bl.injEq, D.int.injEq, D.str.injEq, exists_eq_left', exists_eq_left, true_and, and_true, forall_const, Bool.true_and, Bool.and_true, Bool.false_eq_true, Bool.not_true, Bool.not_false, if_true, true_implies, false_implies, eq_self, Bool.true_eq_false, reduceCtorEq, decide_true, decide_eq_true_eq, decide_eq_false_iff_not, Decidable.not_not, beq_self_eq_true, not_true_eq_false, not_false_eq_true, Bool.not_eq_true', Bool.not_eq_false', Option.some.injEq, wipeD, List.map_cons, List.map_nil, List.foldr_cons, List.foldr_nil, tgName, tgTup, tgNames, Option.bind_some, and_self])
    refine And.intro (fun hsm => ?_) (fun hns => ?_)
    · have hsi := simple_of hsm
      obtain ⟨z, a, hz, ha, hsg, hc, _⟩ := v_ring hL4 (by omega) (by omega) ho hsi
      refine wp_call rfl ?_
      (try simp only [w_var, w_bor, w_kint, w_kstr, w_kbl, w_knon, w_gint, w_gstr, w_bin, w_binN, w_cmp, w_ix, w_chn, chnW_b, w_neg, w_notv, w_one, w_andv, w_orv, w_ite, w_tup, w_lst, w_cal, w_listN, w_tupC, w_intC, w_isi, w_isi2', w_sl, w_slN, w_pn, w_ps, w_nil, w_cons, w_tval, w_tcmp, w_tchn, w_tnot, w_tw, w_tone, w_tyes, w_tand, w_tor, w_seq, w_r1, w_r2, w_r3, w_fld, w_prop, w_enu, w_lrg, w_ltx, w_srt, Fl.f, w_snil, w_ret, w_retN, w_asg, w_own, w_expr, w_if, w_for, w_brk, w_cnt, w_pass, w_raise, w_app2, ownL_o, w_par, w_unp, w_lcAf, w_lcAt, wp_of_some, wp_of_ite, wp_ok, wp_bad, wp_exc, wp_nx, wp_rt, wp_bk, wp_ct, wp_xc, wp_no, getV, borV, Bo.f, BoN.f, Co.f, Bi.f, Tg.t, addD_i, addD_s, addD_t, catD_l, subD_i, mulD_i, mulD_s, mulD_t, repD_l, fdivD_i, modD_i, eqD_s, eqD_i, eqD_b, neD_s, neD_i, neD_b, ltD_i, gtD_i, leD_i, geD_i, isND_n, notND_n, nonD_n, nonD_s, nonD_i, nonD_b, nonD_l, nonD_t, inD_s, ninD_s, ixD_l, ixD_t, lenD_l, lenD_t, lenD_s, max2_i, min2_i, listL_l, listL_t, tupL_l, tupL_t, int1_i, items_l, items_t, items_s, rng1_i, rng2_i, slD_s, slD_t, slN_l, isi_ss, isi_si, isi_sb, isi_sl, isi_st, isi_sn, isi_is, isi_ii, isi_ib, isi_il, isi_it, isi_in, isi_bs, isi_bi, isi_bb, isi_bl, isi_bt, isi_bn, isi_ls, isi_li, isi_lb, isi_ll, isi_lt, isi_ln, isi_ts, isi_ti, isi_tb, isi_tl, isi_tt, isi_tn, tl_s, tl_i, tl_b, tl_l, tl_t, tl_n, List.getElem?_cons_zero, List.getElem?_cons_succ, List.set_cons_zero, List.set_cons_succ, List.length_cons, List.length_nil, Nat.reduceAdd, Nat.reduceLT, Nat.reduceLeDiff, Nat.zero_lt_succ, D.bl.injEq, D.int.injEq, D.str.injEq, exists_eq_left', exists_eq_left, true_and, and_true, forall_const, Bool.true_and, Bool.and_true, Bool.false_eq_true, Bool.not_true, Bool.not_false, if_true, true_implies, false_implies, eq_self, Bool.true_eq_false, reduceCtorEq, decide_true, decide_eq_true_eq, decide_eq_false_iff_not, Decidable.not_not, beq_self_eq_true, not_true_eq_false, not_false_eq_true, Bool.not_eq_true', Bool.not_eq_false', Option.some.injEq, wipeD, List.map_cons, List.map_nil, List.foldr_cons, List.foldr_nil, tgName, tgTup, tgNames, Option.bind_some, and_self])
      refine ⟨_, hc, ?_⟩
      (try simp only [w_var, w_bor, w_kint, w_kstr, w_kbl, w_knon, w_gint, w_gstr, w_bin, w_binN, w_cmp, w_ix, w_chn, chnW_b, w_neg, w_notv, w_one, w_andv, w_orv, w_ite, w_tup, w_lst, w_cal, w_listN, w_tupC, w_intC, w_isi, w_isi2', w_sl, w_slN, w_pn, w_ps, w_nil, w_cons, w_tval, w_tcmp, w_tchn, w_tnot, w_tw, w_tone, w_tyes, w_tand, w_tor, w_seq, w_r1, w_r2, w_r3, w_fld, w_prop, w_enu, w_lrg, w_ltx, w_srt, Fl.f, w_snil, w_ret, w_retN, w_asg, w_own, w_expr, w_if, w_for, w_brk, w_cnt, w_pass, w_raise, w_app2, ownL_o, w_par, w_unp, w_lcAf, w_lcAt, wp_of_some, wp_of_ite, wp_ok, wp_bad, wp_exc, wp_nx, wp_rt, wp_bk, wp_ct, wp_xc, wp_no, getV, borV, Bo.f, BoN.f, Co.f, Bi.f, Tg.t, addD_i, addD_s, addD_t, catD_l, subD_i, mulD_i, mulD_s, mulD_t, repD_l, fdivD_i, modD_i, eqD_s, eqD_i, eqD_b, neD_s, neD_i, neD_b, ltD_i, gtD_i, leD_i, geD_i, isND_n, notND_n, nonD_n, nonD_s, nonD_i, nonD_b, nonD_l, nonD_t, inD_s, ninD_s, ixD_l, ixD_t, lenD_l, lenD_t, lenD_s, max2_i, min2_i, listL_l, listL_t, tupL_l, tupL_t, int1_i, items_l, items_t, items_s, rng1_i, rng2_i, slD_s, slD_t, slN_l, isi_ss, isi_si, isi_sb, isi_sl, isi_st, isi_sn, isi_is, isi_ii, isi_ib, isi_il, isi_it, isi_in, isi_bs, isi_bi, isi_bb, isi_bl, isi_bt, isi_bn, isi_ls, isi_li, isi_lb, isi_ll, isi_lt, isi_ln, isi_ts, isi_ti, isi_tb, isi_tl, isi_tt, isi_tn, tl_s, tl_i, tl_b, tl_l, tl_t, tl_n, List.getElem?_cons_zero, List.getElem?_cons_succ, List.set_cons_zero, List.set_cons_succ, List.length_cons, List.length_nil, Nat.reduceAdd, Nat.reduceLT, Nat.reduceLeDiff, Nat.zero_lt_succ, D.bl.injEq, D.int.injEq, D.str.injEq, exists_eq_left', exists_eq_left, true_and, and_true, forall_const, Bool.true_and, Bool.and_true, Bool.false_eq_true, Bool.not_true, Bool.not_false, if_true, true_implies, false_implies, eq_self, Bool.true_eq_false, reduceCtorEq, decide_true, decide_eq_true_eq, decide_eq_false_iff_not, Decidable.not_not, beq_self_eq_true, not_true_eq_false, not_false_eq_true, Bool.not_eq_true', Bool.not_eq_false', Option.some.injEq, wipeD, List.map_cons, List.map_nil, List.foldr_cons, List.foldr_nil, tgName, tgTup, tgNames, Option.bind_some, and_self])
      refine ⟨?_, fun _ => trivial, fun _ => trivial⟩
      rw [Bool.eq_iff_iff, decide_eq_true_eq, sglB_iff]
      constructor
      · intro h0
        have : a = 0 := by omega
        subst this
        rw [rot_zero] at hsg
        exact hsg
      · intro hS
        rcases sgl_turn hS hsg ha with q | q
        · omega
        · rcases Nat.eq_zero_or_pos a with h0 | h0
          · omega
          · exact absurd q (hsi a h0 ha)
    · cases hb : sglB w with
      | false => rfl
      | true =>
        have := simple_all (sgl_simple (sglB_iff.mp hb))
        rw [hns] at this
        cases this
  · exact ⟨_, rfl⟩
theorem v_great : sem__law_great [] = .ok (.lst [.tup [.int 4, .int 1], .tup [.int 4, .int 3], .tup [.int 4, .int 5], .tup [.int 2, .int 11], .tup [.int 3, .int 7]]) := by
  refine semP_wp rfl ?_
  unfold il__law_great
  show Rst.wp (evB _ _ ⟨[], ⟨0, [], 0⟩⟩) _ _
  rw [w_scons]
  (try simp only [w_var, w_bor, w_kint, w_kstr, w_kbl, w_knon, w_gint, w_gstr, w_bin, w_binN, w_cmp, w_ix, w_chn, chnW_b, w_neg, w_notv, w_one, w_andv, w_orv, w_ite, w_tup, w_lst, w_cal, w_listN, w_tupC, w_intC, w_isi, w_isi2', w_sl, w_slN, w_pn, w_ps, w_nil, w_cons, w_tval, w_tcmp, w_tchn, w_tnot, w_tw, w_tone, w_tyes, w_tand, w_tor, w_seq, w_r1, w_r2, w_r3, w_fld, w_prop, w_enu, w_lrg, w_ltx, w_srt, Fl.f, w_snil, w_ret, w_retN, w_asg, w_own, w_expr, w_if, w_for, w_brk, w_cnt, w_pass, w_raise, w_app2, ownL_o, w_par, w_unp, w_lcAf, w_lcAt, wp_of_some, wp_of_ite, wp_ok, wp_bad, wp_exc, wp_nx, wp_rt, wp_bk, wp_ct, wp_xc, wp_no, getV, borV, Bo.f, BoN.f, Co.f, Bi.f, Tg.t, addD_i, addD_s, addD_t, catD_l, subD_i, mulD_i, mulD_s, mulD_t, repD_l, fdivD_i, modD_i, eqD_s, eqD_i, eqD_b, neD_s, neD_i, neD_b, ltD_i, gtD_i, leD_i, geD_i, isND_n, notND_n, nonD_n, nonD_s, nonD_i, nonD_b, nonD_l, nonD_t, inD_s, ninD_s, ixD_l, ixD_t, lenD_l, lenD_t, lenD_s, max2_i, min2_i, listL_l, listL_t, tupL_l, tupL_t, int1_i, items_l, items_t, items_s, rng1_i, rng2_i, slD_s, slD_t, slN_l, isi_ss, isi_si, isi_sb, isi_sl, isi_st, isi_sn, isi_is, isi_ii, isi_ib, isi_il, isi_it, isi_in, isi_bs, isi_bi, isi_bb, isi_bl, isi_bt, isi_bn, isi_ls, isi_li, isi_lb, isi_ll, isi_lt, isi_ln, isi_ts, isi_ti, isi_tb, isi_tl, isi_tt, isi_tn, tl_s, tl_i, tl_b, tl_l, tl_t, tl_n, List.getElem?_cons_zero, List.getElem?_cons_succ, List.set_cons_zero, List.set_cons_succ, List.length_cons, List.length_nil, Nat.reduceAdd, Nat.reduceLT, Nat.reduceLeDiff, Nat.zero_lt_succ, D.bl.injEq, D.int.injEq, D.str.injEq, exists_eq_left', exists_eq_left, true_and, and_true, forall_const, Bool.true_and, Bool.and_true, Bool.false_eq_true, Bool.not_true, Bool.not_false, if_true, true_implies, false_implies, eq_self, Bool.true_eq_false, reduceCtorEq, decide_true, decide_eq_true_eq, decide_eq_false_iff_not, Decidable.not_not, beq_self_eq_true, not_true_eq_false, not_false_eq_true, Bool.not_eq_true', Bool.not_eq_false', Option.some.injEq, wipeD, List.map_cons, List.map_nil, List.foldr_cons, List.foldr_nil, tgName, tgTup, tgNames, Option.bind_some, and_self])
  exact ⟨by decide, by decide, by decide, by decide, by decide, by decide, _, rfl⟩
theorem srtD_c {ws : List Wd} (h : ascB ws = true) (hl : ws.length ≤ 100000) : srtD [.lst (ws.map .str)] = some (.lst (ws.map .str)) := by
  unfold srtD
  dsimp only
  have : strsOf (ws.map D.str) = some ws := by
    clear h hl
    induction ws with
    | nil => rfl
    | cons w r ih => simp [strsOf, ih]
  rw [this]
  show (if ws.length ≤ LN then some (D.lst ((ws.mergeSort leW).map D.str)) else none) = _
  rw [if_pos (LN_le (by omega)), List.mergeSort_of_pairwise (asc_pair h)]
theorem code_clash {l n k : Nat} {w : Wd} (hw : w ∈ codeL l n) (k1 : 1 ≤ k) (k2 : k < n) (h1 : w.take (n - k) ∈ (codeL l n).map fun u => u.drop k) (h2 : w.drop (n - k) ∈ (codeL l n).map fun u => u.take k) : False := by
  obtain ⟨u, hu, e1⟩ := List.mem_map.mp h1
  obtain ⟨v, hv, e2⟩ := List.mem_map.mp h2
  obtain ⟨⟨u1, _⟩, su⟩ := codeL_mem.mp hu
  obtain ⟨⟨v1, _⟩, sv⟩ := codeL_mem.mp hv
  obtain ⟨_, sw⟩ := codeL_mem.mp hw
  have := comma_free (j := k) su sv (by omega) rfl k1 (by omega)
  have e : ((u ++ v).drop k).take v.length = w := by
    rw [List.drop_append_of_le_length (by omega), List.take_append, List.length_drop, List.take_of_length_le (by rw [List.length_drop]; omega), show v.length - (u.length - k) = k by omega, e1, e2, List.take_append_drop]
  rw [e] at this
  exact this sw
-- base: is_string turn check is_simple turns simple alikeD pick text isint sorted words06 tab06
-- pieces: joined cut cutturn code06
-- imports: Lc2w
theorem law_true : ∀ sr : Src, sr.ok → ∃ s', evB gam_law il_law ⟨envL ["_law_script", "_law_h", "_law_found", "_law_heads", "_law_tails", "_law_word", "_law_again", "_law_letters", "_law_n", "_law_k"], sr⟩ = .rt (.bl true) s' := fun sr hs => law_of (by
  unfold il_law
  show Rst.wp (evB _ _ ⟨[none, some .src, none, none, none, none, none, none, none, none], sr⟩) _ _
  rw [w_scons]
  (try simp only [w_var, w_bor, w_kint, w_kstr, w_kbl, w_knon, w_gint, w_gstr, w_bin, w_binN, w_cmp, w_ix, w_chn, chnW_b, w_neg, w_notv, w_one, w_andv, w_orv, w_ite, w_tup, w_lst, w_cal, w_listN, w_tupC, w_intC, w_isi, w_isi2', w_sl, w_slN, w_pn, w_ps, w_nil, w_cons, w_tval, w_tcmp, w_tchn, w_tnot, w_tw, w_tone, w_tyes, w_tand, w_tor, w_seq, w_r1, w_r2, w_r3, w_fld, w_prop, w_enu, w_lrg, w_ltx, w_srt, Fl.f, w_snil, w_ret, w_retN, w_asg, w_own, w_expr, w_if, w_for, w_brk, w_cnt, w_pass, w_raise, w_app2, ownL_o, w_par, w_unp, w_lcAf, w_lcAt, wp_of_some, wp_of_ite, wp_ok, wp_bad, wp_exc, wp_nx, wp_rt, wp_bk, wp_ct, wp_xc, wp_no, getV, borV, Bo.f, BoN.f, Co.f, Bi.f, Tg.t, addD_i, addD_s, addD_t, catD_l, subD_i, mulD_i, mulD_s, mulD_t, repD_l, fdivD_i, modD_i, eqD_s, eqD_i, eqD_b, neD_s, neD_i, neD_b, ltD_i, gtD_i, leD_i, geD_i, isND_n, notND_n, nonD_n, nonD_s, nonD_i, nonD_b, nonD_l, nonD_t, inD_s, ninD_s, ixD_l, ixD_t, lenD_l, lenD_t, lenD_s, max2_i, min2_i, listL_l, listL_t, tupL_l, tupL_t, int1_i, items_l, items_t, items_s, rng1_i, rng2_i, slD_s, slD_t, slN_l, isi_ss, isi_si, isi_sb, isi_sl, isi_st, isi_sn, isi_is, isi_ii, isi_ib, isi_il, isi_it, isi_in, isi_bs, isi_bi, isi_bb, isi_bl, isi_bt, isi_bn, isi_ls, isi_li, isi_lb, isi_ll, isi_lt, isi_ln, isi_ts, isi_ti, isi_tb, isi_tl, isi_tt, isi_tn, tl_s, tl_i, tl_b, tl_l, tl_t, tl_n, List.getElem?_cons_zero, List.getElem?_cons_succ, List.set_cons_zero, List.set_cons_succ, List.length_cons, List.length_nil, Nat.reduceAdd, Nat.reduceLT, Nat.reduceLeDiff, Nat.zero_lt_succ, D.bl.injEq, D.int.injEq, D.str.injEq, exists_eq_left', exists_eq_left, true_and, and_true, forall_const, Bool.true_and, Bool.and_true, Bool.false_eq_true, Bool.not_true, Bool.not_false, if_true, true_implies, false_implies, eq_self, Bool.true_eq_false, reduceCtorEq, decide_true, decide_eq_true_eq, decide_eq_false_iff_not, Decidable.not_not, beq_self_eq_true, not_true_eq_false, not_false_eq_true, Bool.not_eq_true', Bool.not_eq_false', Option.some.injEq, wipeD, List.map_cons, List.map_nil, List.foldr_cons, List.foldr_nil, tgName, tgTup, tgNames, Option.bind_some, and_self])
  refine wp_calls rfl rfl ?_
  (try simp only [w_var, w_bor, w_kint, w_kstr, w_kbl, w_knon, w_gint, w_gstr, w_bin, w_binN, w_cmp, w_ix, w_chn, chnW_b, w_neg, w_notv, w_one, w_andv, w_orv, w_ite, w_tup, w_lst, w_cal, w_listN, w_tupC, w_intC, w_isi, w_isi2', w_sl, w_slN, w_pn, w_ps, w_nil, w_cons, w_tval, w_tcmp, w_tchn, w_tnot, w_tw, w_tone, w_tyes, w_tand, w_tor, w_seq, w_r1, w_r2, w_r3, w_fld, w_prop, w_enu, w_lrg, w_ltx, w_srt, Fl.f, w_snil, w_ret, w_retN, w_asg, w_own, w_expr, w_if, w_for, w_brk, w_cnt, w_pass, w_raise, w_app2, ownL_o, w_par, w_unp, w_lcAf, w_lcAt, wp_of_some, wp_of_ite, wp_ok, wp_bad, wp_exc, wp_nx, wp_rt, wp_bk, wp_ct, wp_xc, wp_no, getV, borV, Bo.f, BoN.f, Co.f, Bi.f, Tg.t, addD_i, addD_s, addD_t, catD_l, subD_i, mulD_i, mulD_s, mulD_t, repD_l, fdivD_i, modD_i, eqD_s, eqD_i, eqD_b, neD_s, neD_i, neD_b, ltD_i, gtD_i, leD_i, geD_i, isND_n, notND_n, nonD_n, nonD_s, nonD_i, nonD_b, nonD_l, nonD_t, inD_s, ninD_s, ixD_l, ixD_t, lenD_l, lenD_t, lenD_s, max2_i, min2_i, listL_l, listL_t, tupL_l, tupL_t, int1_i, items_l, items_t, items_s, rng1_i, rng2_i, slD_s, slD_t, slN_l, isi_ss, isi_si, isi_sb, isi_sl, isi_st, isi_sn, isi_is, isi_ii, isi_ib, isi_il, isi_it, isi_in, isi_bs, isi_bi, isi_bb, isi_bl, isi_bt, isi_bn, isi_ls, isi_li, isi_lb, isi_ll, isi_lt, isi_ln, isi_ts, isi_ti, isi_tb, isi_tl, isi_tt, isi_tn, tl_s, tl_i, tl_b, tl_l, tl_t, tl_n, List.getElem?_cons_zero, List.getElem?_cons_succ, List.set_cons_zero, List.set_cons_succ, List.length_cons, List.length_nil, Nat.reduceAdd, Nat.reduceLT, Nat.reduceLeDiff, Nat.zero_lt_succ, D.bl.injEq, D.int.injEq, D.str.injEq, exists_eq_left', exists_eq_left, true_and, and_true, forall_const, Bool.true_and, Bool.and_true, Bool.false_eq_true, Bool.not_true, Bool.not_false, if_true, true_implies, false_implies, eq_self, Bool.true_eq_false, reduceCtorEq, decide_true, decide_eq_true_eq, decide_eq_false_iff_not, Decidable.not_not, beq_self_eq_true, not_true_eq_false, not_false_eq_true, Bool.not_eq_true', Bool.not_eq_false', Option.some.injEq, wipeD, List.map_cons, List.map_nil, List.foldr_cons, List.foldr_nil, tgName, tgTup, tgNames, Option.bind_some, and_self])
  refine ⟨by decide, by decide, by decide, by decide, by decide, by decide, by decide, by decide, by decide, ?_⟩
  refine wp_call0 rfl rfl v_great ?_
  (try simp only [w_var, w_bor, w_kint, w_kstr, w_kbl, w_knon, w_gint, w_gstr, w_bin, w_binN, w_cmp, w_ix, w_chn, chnW_b, w_neg, w_notv, w_one, w_andv, w_orv, w_ite, w_tup, w_lst, w_cal, w_listN, w_tupC, w_intC, w_isi, w_isi2', w_sl, w_slN, w_pn, w_ps, w_nil, w_cons, w_tval, w_tcmp, w_tchn, w_tnot, w_tw, w_tone, w_tyes, w_tand, w_tor, w_seq, w_r1, w_r2, w_r3, w_fld, w_prop, w_enu, w_lrg, w_ltx, w_srt, Fl.f, w_snil, w_ret, w_retN, w_asg, w_own, w_expr, w_if, w_for, w_brk, w_cnt, w_pass, w_raise, w_app2, ownL_o, w_par, w_unp, w_lcAf, w_lcAt, wp_of_some, wp_of_ite, wp_ok, wp_bad, wp_exc, wp_nx, wp_rt, wp_bk, wp_ct, wp_xc, wp_no, getV, borV, Bo.f, BoN.f, Co.f, Bi.f, Tg.t, addD_i, addD_s, addD_t, catD_l, subD_i, mulD_i, mulD_s, mulD_t, repD_l, fdivD_i, modD_i, eqD_s, eqD_i, eqD_b, neD_s, neD_i, neD_b, ltD_i, gtD_i, leD_i, geD_i, isND_n, notND_n, nonD_n, nonD_s, nonD_i, nonD_b, nonD_l, nonD_t, inD_s, ninD_s, ixD_l, ixD_t, lenD_l, lenD_t, lenD_s, max2_i, min2_i, listL_l, listL_t, tupL_l, tupL_t, int1_i, items_l, items_t, items_s, rng1_i, rng2_i, slD_s, slD_t, slN_l, isi_ss, isi_si, isi_sb, isi_sl, isi_st, isi_sn, isi_is, isi_ii, isi_ib, isi_il, isi_it, isi_in, isi_bs, isi_bi, isi_bb, isi_bl, isi_bt, isi_bn, isi_ls, isi_li, isi_lb, isi_ll, isi_lt, isi_ln, isi_ts, isi_ti, isi_tb, isi_tl, isi_tt, isi_tn, tl_s, tl_i, tl_b, tl_l, tl_t, tl_n, List.getElem?_cons_zero, List.getElem?_cons_succ, List.set_cons_zero, List.set_cons_succ, List.length_cons, List.length_nil, Nat.reduceAdd, Nat.reduceLT, Nat.reduceLeDiff, Nat.zero_lt_succ, D.bl.injEq, D.int.injEq, D.str.injEq, exists_eq_left', exists_eq_left, true_and, and_true, forall_const, Bool.true_and, Bool.and_true, Bool.false_eq_true, Bool.not_true, Bool.not_false, if_true, true_implies, false_implies, eq_self, Bool.true_eq_false, reduceCtorEq, decide_true, decide_eq_true_eq, decide_eq_false_iff_not, Decidable.not_not, beq_self_eq_true, not_true_eq_false, not_false_eq_true, Bool.not_eq_true', Bool.not_eq_false', Option.some.injEq, wipeD, List.map_cons, List.map_nil, List.foldr_cons, List.foldr_nil, tgName, tgTup, tgNames, Option.bind_some, and_self])
  refine ⟨by decide, (v_pick hs (by decide) (by decide)).imp fun dm sr2 ⟨ok2, hd⟩ => ?_⟩
  obtain ⟨p, hp, rfl⟩ : ∃ p : Nat × Nat, p ∈ sizes06 ∧ dm = .tup [.int (p.1 : Int), .int (p.2 : Int)] := by
    simp at hd
    rcases hd with rfl | rfl | rfl | rfl | rfl | rfl | rfl | rfl | rfl | rfl | rfl | rfl | rfl
    · exact ⟨(2, 1), by decide, rfl⟩
    · exact ⟨(2, 3), by decide, rfl⟩
    · exact ⟨(2, 5), by decide, rfl⟩
    · exact ⟨(2, 7), by decide, rfl⟩
    · exact ⟨(2, 9), by decide, rfl⟩
    · exact ⟨(3, 1), by decide, rfl⟩
    · exact ⟨(3, 3), by decide, rfl⟩
    · exact ⟨(3, 5), by decide, rfl⟩
    · exact ⟨(4, 1), by decide, rfl⟩
    · exact ⟨(4, 3), by decide, rfl⟩
    · exact ⟨(4, 5), by decide, rfl⟩
    · exact ⟨(2, 11), by decide, rfl⟩
    · exact ⟨(3, 7), by decide, rfl⟩
  clear hd
  obtain ⟨l, n⟩ := p
  dsimp only
  obtain ⟨t1, t2, _, _, t5, t6, t7, t8, t9⟩ := tab06_at hp
  obtain ⟨x, hx⟩ : ∃ x : Int, x = (l : Int) := ⟨_, rfl⟩
  obtain ⟨y, hy⟩ : ∃ y : Int, y = (n : Int) := ⟨_, rfl⟩
  have hcode := v_code_of hx hy hp
  obtain ⟨m, hm⟩ : ∃ m : Int, m = (((codeL l n).length : Nat) : Int) := ⟨_, rfl⟩
  rw [← hm, ← hx, ← hy] at t2
  rw [← hx, ← hy]
  have hmem : ∀ w, w ∈ codeL l n ↔ (w.length = n ∧ isL l w) ∧ Sgl w := fun w => codeL_mem
  have hcl := @code_clash l n
  have hn0 : 1 ≤ n := by omega
  clear hp
  generalize codeL l n = ws at *
  (try simp only [w_var, w_bor, w_kint, w_kstr, w_kbl, w_knon, w_gint, w_gstr, w_bin, w_binN, w_cmp, w_ix, w_chn, chnW_b, w_neg, w_notv, w_one, w_andv, w_orv, w_ite, w_tup, w_lst, w_cal, w_listN, w_tupC, w_intC, w_isi, w_isi2', w_sl, w_slN, w_pn, w_ps, w_nil, w_cons, w_tval, w_tcmp, w_tchn, w_tnot, w_tw, w_tone, w_tyes, w_tand, w_tor, w_seq, w_r1, w_r2, w_r3, w_fld, w_prop, w_enu, w_lrg, w_ltx, w_srt, Fl.f, w_snil, w_ret, w_retN, w_asg, w_own, w_expr, w_if, w_for, w_brk, w_cnt, w_pass, w_raise, w_app2, ownL_o, w_par, w_unp, w_lcAf, w_lcAt, wp_of_some, wp_of_ite, wp_ok, wp_bad, wp_exc, wp_nx, wp_rt, wp_bk, wp_ct, wp_xc, wp_no, getV, borV, Bo.f, BoN.f, Co.f, Bi.f, Tg.t, addD_i, addD_s, addD_t, catD_l, subD_i, mulD_i, mulD_s, mulD_t, repD_l, fdivD_i, modD_i, eqD_s, eqD_i, eqD_b, neD_s, neD_i, neD_b, ltD_i, gtD_i, leD_i, geD_i, isND_n, notND_n, nonD_n, nonD_s, nonD_i, nonD_b, nonD_l, nonD_t, inD_s, ninD_s, ixD_l, ixD_t, lenD_l, lenD_t, lenD_s, max2_i, min2_i, listL_l, listL_t, tupL_l, tupL_t, int1_i, items_l, items_t, items_s, rng1_i, rng2_i, slD_s, slD_t, slN_l, isi_ss, isi_si, isi_sb, isi_sl, isi_st, isi_sn, isi_is, isi_ii, isi_ib, isi_il, isi_it, isi_in, isi_bs, isi_bi, isi_bb, isi_bl, isi_bt, isi_bn, isi_ls, isi_li, isi_lb, isi_ll, isi_lt, isi_ln, isi_ts, isi_ti, isi_tb, isi_tl, isi_tt, isi_tn, tl_s, tl_i, tl_b, tl_l, tl_t, tl_n, List.getElem?_cons_zero, List.getElem?_cons_succ, List.set_cons_zero, List.set_cons_succ, List.length_cons, List.length_nil, Nat.reduceAdd, Nat.reduceLT, Nat.reduceLeDiff, Nat.zero_lt_succ, D.bl.injEq, D.int.injEq, D.str.injEq, exists_eq_left', exists_eq_left, true_and, and_true, forall_const, Bool.true_and, Bool.and_true, Bool.false_eq_true, Bool.not_true, Bool.not_false, if_true, true_implies, false_implies, eq_self, Bool.true_eq_false, reduceCtorEq, decide_true, decide_eq_true_eq, decide_eq_false_iff_not, Decidable.not_not, beq_self_eq_true, not_true_eq_false, not_false_eq_true, Bool.not_eq_true', Bool.not_eq_false', Option.some.injEq, wipeD, List.map_cons, List.map_nil, List.foldr_cons, List.foldr_nil, tgName, tgTup, tgNames, Option.bind_some, and_self])
  rw [w_scons]
  (try simp only [w_var, w_bor, w_kint, w_kstr, w_kbl, w_knon, w_gint, w_gstr, w_bin, w_binN, w_cmp, w_ix, w_chn, chnW_b, w_neg, w_notv, w_one, w_andv, w_orv, w_ite, w_tup, w_lst, w_cal, w_listN, w_tupC, w_intC, w_isi, w_isi2', w_sl, w_slN, w_pn, w_ps, w_nil, w_cons, w_tval, w_tcmp, w_tchn, w_tnot, w_tw, w_tone, w_tyes, w_tand, w_tor, w_seq, w_r1, w_r2, w_r3, w_fld, w_prop, w_enu, w_lrg, w_ltx, w_srt, Fl.f, w_snil, w_ret, w_retN, w_asg, w_own, w_expr, w_if, w_for, w_brk, w_cnt, w_pass, w_raise, w_app2, ownL_o, w_par, w_unp, w_lcAf, w_lcAt, wp_of_some, wp_of_ite, wp_ok, wp_bad, wp_exc, wp_nx, wp_rt, wp_bk, wp_ct, wp_xc, wp_no, getV, borV, Bo.f, BoN.f, Co.f, Bi.f, Tg.t, addD_i, addD_s, addD_t, catD_l, subD_i, mulD_i, mulD_s, mulD_t, repD_l, fdivD_i, modD_i, eqD_s, eqD_i, eqD_b, neD_s, neD_i, neD_b, ltD_i, gtD_i, leD_i, geD_i, isND_n, notND_n, nonD_n, nonD_s, nonD_i, nonD_b, nonD_l, nonD_t, inD_s, ninD_s, ixD_l, ixD_t, lenD_l, lenD_t, lenD_s, max2_i, min2_i, listL_l, listL_t, tupL_l, tupL_t, int1_i, items_l, items_t, items_s, rng1_i, rng2_i, slD_s, slD_t, slN_l, isi_ss, isi_si, isi_sb, isi_sl, isi_st, isi_sn, isi_is, isi_ii, isi_ib, isi_il, isi_it, isi_in, isi_bs, isi_bi, isi_bb, isi_bl, isi_bt, isi_bn, isi_ls, isi_li, isi_lb, isi_ll, isi_lt, isi_ln, isi_ts, isi_ti, isi_tb, isi_tl, isi_tt, isi_tn, tl_s, tl_i, tl_b, tl_l, tl_t, tl_n, List.getElem?_cons_zero, List.getElem?_cons_succ, List.set_cons_zero, List.set_cons_succ, List.length_cons, List.length_nil, Nat.reduceAdd, Nat.reduceLT, Nat.reduceLeDiff, Nat.zero_lt_succ, D.bl.injEq, D.int.injEq, D.str.injEq, exists_eq_left', exists_eq_left, true_and, and_true, forall_const, Bool.true_and, Bool.and_true, Bool.false_eq_true, Bool.not_true, Bool.not_false, if_true, true_implies, false_implies, eq_self, Bool.true_eq_false, reduceCtorEq, decide_true, decide_eq_true_eq, decide_eq_false_iff_not, Decidable.not_not, beq_self_eq_true, not_true_eq_false, not_false_eq_true, Bool.not_eq_true', Bool.not_eq_false', Option.some.injEq, wipeD, List.map_cons, List.map_nil, List.foldr_cons, List.foldr_nil, tgName, tgTup, tgNames, Option.bind_some, and_self])
  refine wp_call rfl ?_
  (try simp only [w_var, w_bor, w_kint, w_kstr, w_kbl, w_knon, w_gint, w_gstr, w_bin, w_binN, w_cmp, w_ix, w_chn, chnW_b, w_neg, w_notv, w_one, w_andv, w_orv, w_ite, w_tup, w_lst, w_cal, w_listN, w_tupC, w_intC, w_isi, w_isi2', w_sl, w_slN, w_pn, w_ps, w_nil, w_cons, w_tval, w_tcmp, w_tchn, w_tnot, w_tw, w_tone, w_tyes, w_tand, w_tor, w_seq, w_r1, w_r2, w_r3, w_fld, w_prop, w_enu, w_lrg, w_ltx, w_srt, Fl.f, w_snil, w_ret, w_retN, w_asg, w_own, w_expr, w_if, w_for, w_brk, w_cnt, w_pass, w_raise, w_app2, ownL_o, w_par, w_unp, w_lcAf, w_lcAt, wp_of_some, wp_of_ite, wp_ok, wp_bad, wp_exc, wp_nx, wp_rt, wp_bk, wp_ct, wp_xc, wp_no, getV, borV, Bo.f, BoN.f, Co.f, Bi.f, Tg.t, addD_i, addD_s, addD_t, catD_l, subD_i, mulD_i, mulD_s, mulD_t, repD_l, fdivD_i, modD_i, eqD_s, eqD_i, eqD_b, neD_s, neD_i, neD_b, ltD_i, gtD_i, leD_i, geD_i, isND_n, notND_n, nonD_n, nonD_s, nonD_i, nonD_b, nonD_l, nonD_t, inD_s, ninD_s, ixD_l, ixD_t, lenD_l, lenD_t, lenD_s, max2_i, min2_i, listL_l, listL_t, tupL_l, tupL_t, int1_i, items_l, items_t, items_s, rng1_i, rng2_i, slD_s, slD_t, slN_l, isi_ss, isi_si, isi_sb, isi_sl, isi_st, isi_sn, isi_is, isi_ii, isi_ib, isi_il, isi_it, isi_in, isi_bs, isi_bi, isi_bb, isi_bl, isi_bt, isi_bn, isi_ls, isi_li, isi_lb, isi_ll, isi_lt, isi_ln, isi_ts, isi_ti, isi_tb, isi_tl, isi_tt, isi_tn, tl_s, tl_i, tl_b, tl_l, tl_t, tl_n, List.getElem?_cons_zero, List.getElem?_cons_succ, List.set_cons_zero, List.set_cons_succ, List.length_cons, List.length_nil, Nat.reduceAdd, Nat.reduceLT, Nat.reduceLeDiff, Nat.zero_lt_succ, D.bl.injEq, D.int.injEq, D.str.injEq, exists_eq_left', exists_eq_left, true_and, and_true, forall_const, Bool.true_and, Bool.and_true, Bool.false_eq_true, Bool.not_true, Bool.not_false, if_true, true_implies, false_implies, eq_self, Bool.true_eq_false, reduceCtorEq, decide_true, decide_eq_true_eq, decide_eq_false_iff_not, Decidable.not_not, beq_self_eq_true, not_true_eq_false, not_false_eq_true, Bool.not_eq_true', Bool.not_eq_false', Option.some.injEq, wipeD, List.map_cons, List.map_nil, List.foldr_cons, List.foldr_nil, tgName, tgTup, tgNames, Option.bind_some, and_self])
  refine ⟨_, hcode, ?_⟩
  (try simp only [w_var, w_bor, w_kint, w_kstr, w_kbl, w_knon, w_gint, w_gstr, w_bin, w_binN, w_cmp, w_ix, w_chn, chnW_b, w_neg, w_notv, w_one, w_andv, w_orv, w_ite, w_tup, w_lst, w_cal, w_listN, w_tupC, w_intC, w_isi, w_isi2', w_sl, w_slN, w_pn, w_ps, w_nil, w_cons, w_tval, w_tcmp, w_tchn, w_tnot, w_tw, w_tone, w_tyes, w_tand, w_tor, w_seq, w_r1, w_r2, w_r3, w_fld, w_prop, w_enu, w_lrg, w_ltx, w_srt, Fl.f, w_snil, w_ret, w_retN, w_asg, w_own, w_expr, w_if, w_for, w_brk, w_cnt, w_pass, w_raise, w_app2, ownL_o, w_par, w_unp, w_lcAf, w_lcAt, wp_of_some, wp_of_ite, wp_ok, wp_bad, wp_exc, wp_nx, wp_rt, wp_bk, wp_ct, wp_xc, wp_no, getV, borV, Bo.f, BoN.f, Co.f, Bi.f, Tg.t, addD_i, addD_s, addD_t, catD_l, subD_i, mulD_i, mulD_s, mulD_t, repD_l, fdivD_i, modD_i, eqD_s, eqD_i, eqD_b, neD_s, neD_i, neD_b, ltD_i, gtD_i, leD_i, geD_i, isND_n, notND_n, nonD_n, nonD_s, nonD_i, nonD_b, nonD_l, nonD_t, inD_s, ninD_s, ixD_l, ixD_t, lenD_l, lenD_t, lenD_s, max2_i, min2_i, listL_l, listL_t, tupL_l, tupL_t, int1_i, items_l, items_t, items_s, rng1_i, rng2_i, slD_s, slD_t, slN_l, isi_ss, isi_si, isi_sb, isi_sl, isi_st, isi_sn, isi_is, isi_ii, isi_ib, isi_il, isi_it, isi_in, isi_bs, isi_bi, isi_bb, isi_bl, isi_bt, isi_bn, isi_ls, isi_li, isi_lb, isi_ll, isi_lt, isi_ln, isi_ts, isi_ti, isi_tb, isi_tl, isi_tt, isi_tn, tl_s, tl_i, tl_b, tl_l, tl_t, tl_n, List.getElem?_cons_zero, List.getElem?_cons_succ, List.set_cons_zero, List.set_cons_succ, List.length_cons, List.length_nil, Nat.reduceAdd, Nat.reduceLT, Nat.reduceLeDiff, Nat.zero_lt_succ, D.bl.injEq, D.int.injEq, D.str.injEq, exists_eq_left', exists_eq_left, true_and, and_true, forall_const, Bool.true_and, Bool.and_true, Bool.false_eq_true, Bool.not_true, Bool.not_false, if_true, true_implies, false_implies, eq_self, Bool.true_eq_false, reduceCtorEq, decide_true, decide_eq_true_eq, decide_eq_false_iff_not, Decidable.not_not, beq_self_eq_true, not_true_eq_false, not_false_eq_true, Bool.not_eq_true', Bool.not_eq_false', Option.some.injEq, wipeD, List.map_cons, List.map_nil, List.foldr_cons, List.foldr_nil, tgName, tgTup, tgNames, Option.bind_some, and_self])
  rw [w_scons]
  (try simp only [w_var, w_bor, w_kint, w_kstr, w_kbl, w_knon, w_gint, w_gstr, w_bin, w_binN, w_cmp, w_ix, w_chn, chnW_b, w_neg, w_notv, w_one, w_andv, w_orv, w_ite, w_tup, w_lst, w_cal, w_listN, w_tupC, w_intC, w_isi, w_isi2', w_sl, w_slN, w_pn, w_ps, w_nil, w_cons, w_tval, w_tcmp, w_tchn, w_tnot, w_tw, w_tone, w_tyes, w_tand, w_tor, w_seq, w_r1, w_r2, w_r3, w_fld, w_prop, w_enu, w_lrg, w_ltx, w_srt, Fl.f, w_snil, w_ret, w_retN, w_asg, w_own, w_expr, w_if, w_for, w_brk, w_cnt, w_pass, w_raise, w_app2, ownL_o, w_par, w_unp, w_lcAf, w_lcAt, wp_of_some, wp_of_ite, wp_ok, wp_bad, wp_exc, wp_nx, wp_rt, wp_bk, wp_ct, wp_xc, wp_no, getV, borV, Bo.f, BoN.f, Co.f, Bi.f, Tg.t, addD_i, addD_s, addD_t, catD_l, subD_i, mulD_i, mulD_s, mulD_t, repD_l, fdivD_i, modD_i, eqD_s, eqD_i, eqD_b, neD_s, neD_i, neD_b, ltD_i, gtD_i, leD_i, geD_i, isND_n, notND_n, nonD_n, nonD_s, nonD_i, nonD_b, nonD_l, nonD_t, inD_s, ninD_s, ixD_l, ixD_t, lenD_l, lenD_t, lenD_s, max2_i, min2_i, listL_l, listL_t, tupL_l, tupL_t, int1_i, items_l, items_t, items_s, rng1_i, rng2_i, slD_s, slD_t, slN_l, isi_ss, isi_si, isi_sb, isi_sl, isi_st, isi_sn, isi_is, isi_ii, isi_ib, isi_il, isi_it, isi_in, isi_bs, isi_bi, isi_bb, isi_bl, isi_bt, isi_bn, isi_ls, isi_li, isi_lb, isi_ll, isi_lt, isi_ln, isi_ts, isi_ti, isi_tb, isi_tl, isi_tt, isi_tn, tl_s, tl_i, tl_b, tl_l, tl_t, tl_n, List.getElem?_cons_zero, List.getElem?_cons_succ, List.set_cons_zero, List.set_cons_succ, List.length_cons, List.length_nil, Nat.reduceAdd, Nat.reduceLT, Nat.reduceLeDiff, Nat.zero_lt_succ, D.bl.injEq, D.int.injEq, D.str.injEq, exists_eq_left', exists_eq_left, true_and, and_true, forall_const, Bool.true_and, Bool.and_true, Bool.false_eq_true, Bool.not_true, Bool.not_false, if_true, true_implies, false_implies, eq_self, Bool.true_eq_false, reduceCtorEq, decide_true, decide_eq_true_eq, decide_eq_false_iff_not, Decidable.not_not, beq_self_eq_true, not_true_eq_false, not_false_eq_true, Bool.not_eq_true', Bool.not_eq_false', Option.some.injEq, wipeD, List.map_cons, List.map_nil, List.foldr_cons, List.foldr_nil, tgName, tgTup, tgNames, Option.bind_some, and_self, srtD_c t1 (show ws.length ≤ 100000 by omega)])
  refine ⟨by (first | omega | with_reducible assumption | (refine LN_le ?_; (try simp only [rot_len, List.length_append, List.length_drop, List.length_take, List.length_map, List.length_cons, List.length_nil, List.length_range, rangeD_len]); omega) | (refine LN_lt ?_; (try simp only [rot_len, List.length_append, List.length_drop, List.length_take, List.length_map, List.length_cons, List.length_nil, List.length_range, rangeD_len]); omega) | (refine big_le ?_ ?_ <;> (try simp only [rot_len, List.length_append, List.length_drop, List.length_take, List.length_map, List.length_cons, List.length_nil, List.length_range, rangeD_len]) <;> omega) | (refine big2 (big_le ?_ ?_) (big_le ?_ ?_) <;> (try simp only [rot_len, List.length_append, List.length_drop, List.length_take, List.length_map, List.length_cons, List.length_nil, List.length_range, rangeD_len]) <;> omega)), ?_⟩
  refine wp_call rfl ?_
  (try simp only [w_var, w_bor, w_kint, w_kstr, w_kbl, w_knon, w_gint, w_gstr, w_bin, w_binN, w_cmp, w_ix, w_chn, chnW_b, w_neg, w_notv, w_one, w_andv, w_orv, w_ite, w_tup, w_lst, w_cal, w_listN, w_tupC, w_intC, w_isi, w_isi2', w_sl, w_slN, w_pn, w_ps, w_nil, w_cons, w_tval, w_tcmp, w_tchn, w_tnot, w_tw, w_tone, w_tyes, w_tand, w_tor, w_seq, w_r1, w_r2, w_r3, w_fld, w_prop, w_enu, w_lrg, w_ltx, w_srt, Fl.f, w_snil, w_ret, w_retN, w_asg, w_own, w_expr, w_if, w_for, w_brk, w_cnt, w_pass, w_raise, w_app2, ownL_o, w_par, w_unp, w_lcAf, w_lcAt, wp_of_some, wp_of_ite, wp_ok, wp_bad, wp_exc, wp_nx, wp_rt, wp_bk, wp_ct, wp_xc, wp_no, getV, borV, Bo.f, BoN.f, Co.f, Bi.f, Tg.t, addD_i, addD_s, addD_t, catD_l, subD_i, mulD_i, mulD_s, mulD_t, repD_l, fdivD_i, modD_i, eqD_s, eqD_i, eqD_b, neD_s, neD_i, neD_b, ltD_i, gtD_i, leD_i, geD_i, isND_n, notND_n, nonD_n, nonD_s, nonD_i, nonD_b, nonD_l, nonD_t, inD_s, ninD_s, ixD_l, ixD_t, lenD_l, lenD_t, lenD_s, max2_i, min2_i, listL_l, listL_t, tupL_l, tupL_t, int1_i, items_l, items_t, items_s, rng1_i, rng2_i, slD_s, slD_t, slN_l, isi_ss, isi_si, isi_sb, isi_sl, isi_st, isi_sn, isi_is, isi_ii, isi_ib, isi_il, isi_it, isi_in, isi_bs, isi_bi, isi_bb, isi_bl, isi_bt, isi_bn, isi_ls, isi_li, isi_lb, isi_ll, isi_lt, isi_ln, isi_ts, isi_ti, isi_tb, isi_tl, isi_tt, isi_tn, tl_s, tl_i, tl_b, tl_l, tl_t, tl_n, List.getElem?_cons_zero, List.getElem?_cons_succ, List.set_cons_zero, List.set_cons_succ, List.length_cons, List.length_nil, Nat.reduceAdd, Nat.reduceLT, Nat.reduceLeDiff, Nat.zero_lt_succ, D.bl.injEq, D.int.injEq, D.str.injEq, exists_eq_left', exists_eq_left, true_and, and_true, forall_const, Bool.true_and, Bool.and_true, Bool.false_eq_true, Bool.not_true, Bool.not_false, if_true, true_implies, false_implies, eq_self, Bool.true_eq_false, reduceCtorEq, decide_true, decide_eq_true_eq, decide_eq_false_iff_not, Decidable.not_not, beq_self_eq_true, not_true_eq_false, not_false_eq_true, Bool.not_eq_true', Bool.not_eq_false', Option.some.injEq, wipeD, List.map_cons, List.map_nil, List.foldr_cons, List.foldr_nil, tgName, tgTup, tgNames, Option.bind_some, and_self])
  refine ⟨_, t2, ?_⟩
  (try simp only [w_var, w_bor, w_kint, w_kstr, w_kbl, w_knon, w_gint, w_gstr, w_bin, w_binN, w_cmp, w_ix, w_chn, chnW_b, w_neg, w_notv, w_one, w_andv, w_orv, w_ite, w_tup, w_lst, w_cal, w_listN, w_tupC, w_intC, w_isi, w_isi2', w_sl, w_slN, w_pn, w_ps, w_nil, w_cons, w_tval, w_tcmp, w_tchn, w_tnot, w_tw, w_tone, w_tyes, w_tand, w_tor, w_seq, w_r1, w_r2, w_r3, w_fld, w_prop, w_enu, w_lrg, w_ltx, w_srt, Fl.f, w_snil, w_ret, w_retN, w_asg, w_own, w_expr, w_if, w_for, w_brk, w_cnt, w_pass, w_raise, w_app2, ownL_o, w_par, w_unp, w_lcAf, w_lcAt, wp_of_some, wp_of_ite, wp_ok, wp_bad, wp_exc, wp_nx, wp_rt, wp_bk, wp_ct, wp_xc, wp_no, getV, borV, Bo.f, BoN.f, Co.f, Bi.f, Tg.t, addD_i, addD_s, addD_t, catD_l, subD_i, mulD_i, mulD_s, mulD_t, repD_l, fdivD_i, modD_i, eqD_s, eqD_i, eqD_b, neD_s, neD_i, neD_b, ltD_i, gtD_i, leD_i, geD_i, isND_n, notND_n, nonD_n, nonD_s, nonD_i, nonD_b, nonD_l, nonD_t, inD_s, ninD_s, ixD_l, ixD_t, lenD_l, lenD_t, lenD_s, max2_i, min2_i, listL_l, listL_t, tupL_l, tupL_t, int1_i, items_l, items_t, items_s, rng1_i, rng2_i, slD_s, slD_t, slN_l, isi_ss, isi_si, isi_sb, isi_sl, isi_st, isi_sn, isi_is, isi_ii, isi_ib, isi_il, isi_it, isi_in, isi_bs, isi_bi, isi_bb, isi_bl, isi_bt, isi_bn, isi_ls, isi_li, isi_lb, isi_ll, isi_lt, isi_ln, isi_ts, isi_ti, isi_tb, isi_tl, isi_tt, isi_tn, tl_s, tl_i, tl_b, tl_l, tl_t, tl_n, List.getElem?_cons_zero, List.getElem?_cons_succ, List.set_cons_zero, List.set_cons_succ, List.length_cons, List.length_nil, Nat.reduceAdd, Nat.reduceLT, Nat.reduceLeDiff, Nat.zero_lt_succ, D.bl.injEq, D.int.injEq, D.str.injEq, exists_eq_left', exists_eq_left, true_and, and_true, forall_const, Bool.true_and, Bool.and_true, Bool.false_eq_true, Bool.not_true, Bool.not_false, if_true, true_implies, false_implies, eq_self, Bool.true_eq_false, reduceCtorEq, decide_true, decide_eq_true_eq, decide_eq_false_iff_not, Decidable.not_not, beq_self_eq_true, not_true_eq_false, not_false_eq_true, Bool.not_eq_true', Bool.not_eq_false', Option.some.injEq, wipeD, List.map_cons, List.map_nil, List.foldr_cons, List.foldr_nil, tgName, tgTup, tgNames, Option.bind_some, and_self])
  rw [List.length_map]
  refine And.intro (fun _ => ?_) (fun h => absurd hm.symm h)
  refine wp_call rfl ?_
  (try simp only [w_var, w_bor, w_kint, w_kstr, w_kbl, w_knon, w_gint, w_gstr, w_bin, w_binN, w_cmp, w_ix, w_chn, chnW_b, w_neg, w_notv, w_one, w_andv, w_orv, w_ite, w_tup, w_lst, w_cal, w_listN, w_tupC, w_intC, w_isi, w_isi2', w_sl, w_slN, w_pn, w_ps, w_nil, w_cons, w_tval, w_tcmp, w_tchn, w_tnot, w_tw, w_tone, w_tyes, w_tand, w_tor, w_seq, w_r1, w_r2, w_r3, w_fld, w_prop, w_enu, w_lrg, w_ltx, w_srt, Fl.f, w_snil, w_ret, w_retN, w_asg, w_own, w_expr, w_if, w_for, w_brk, w_cnt, w_pass, w_raise, w_app2, ownL_o, w_par, w_unp, w_lcAf, w_lcAt, wp_of_some, wp_of_ite, wp_ok, wp_bad, wp_exc, wp_nx, wp_rt, wp_bk, wp_ct, wp_xc, wp_no, getV, borV, Bo.f, BoN.f, Co.f, Bi.f, Tg.t, addD_i, addD_s, addD_t, catD_l, subD_i, mulD_i, mulD_s, mulD_t, repD_l, fdivD_i, modD_i, eqD_s, eqD_i, eqD_b, neD_s, neD_i, neD_b, ltD_i, gtD_i, leD_i, geD_i, isND_n, notND_n, nonD_n, nonD_s, nonD_i, nonD_b, nonD_l, nonD_t, inD_s, ninD_s, ixD_l, ixD_t, lenD_l, lenD_t, lenD_s, max2_i, min2_i, listL_l, listL_t, tupL_l, tupL_t, int1_i, items_l, items_t, items_s, rng1_i, rng2_i, slD_s, slD_t, slN_l, isi_ss, isi_si, isi_sb, isi_sl, isi_st, isi_sn, isi_is, isi_ii, isi_ib, isi_il, isi_it, isi_in, isi_bs, isi_bi, isi_bb, isi_bl, isi_bt, isi_bn, isi_ls, isi_li, isi_lb, isi_ll, isi_lt, isi_ln, isi_ts, isi_ti, isi_tb, isi_tl, isi_tt, isi_tn, tl_s, tl_i, tl_b, tl_l, tl_t, tl_n, List.getElem?_cons_zero, List.getElem?_cons_succ, List.set_cons_zero, List.set_cons_succ, List.length_cons, List.length_nil, Nat.reduceAdd, Nat.reduceLT, Nat.reduceLeDiff, Nat.zero_lt_succ, D.bl.injEq, D.int.injEq, D.str.injEq, exists_eq_left', exists_eq_left, true_and, and_true, forall_const, Bool.true_and, Bool.and_true, Bool.false_eq_true, Bool.not_true, Bool.not_false, if_true, true_implies, false_implies, eq_self, Bool.true_eq_false, reduceCtorEq, decide_true, decide_eq_true_eq, decide_eq_false_iff_not, Decidable.not_not, beq_self_eq_true, not_true_eq_false, not_false_eq_true, Bool.not_eq_true', Bool.not_eq_false', Option.some.injEq, wipeD, List.map_cons, List.map_nil, List.foldr_cons, List.foldr_nil, tgName, tgTup, tgNames, Option.bind_some, and_self, srtD_c t1 (show ws.length ≤ 100000 by omega)])
  refine ⟨_, v_alike 5 _ (okD_l (by omega)), ?_⟩
  (try simp only [w_var, w_bor, w_kint, w_kstr, w_kbl, w_knon, w_gint, w_gstr, w_bin, w_binN, w_cmp, w_ix, w_chn, chnW_b, w_neg, w_notv, w_one, w_andv, w_orv, w_ite, w_tup, w_lst, w_cal, w_listN, w_tupC, w_intC, w_isi, w_isi2', w_sl, w_slN, w_pn, w_ps, w_nil, w_cons, w_tval, w_tcmp, w_tchn, w_tnot, w_tw, w_tone, w_tyes, w_tand, w_tor, w_seq, w_r1, w_r2, w_r3, w_fld, w_prop, w_enu, w_lrg, w_ltx, w_srt, Fl.f, w_snil, w_ret, w_retN, w_asg, w_own, w_expr, w_if, w_for, w_brk, w_cnt, w_pass, w_raise, w_app2, ownL_o, w_par, w_unp, w_lcAf, w_lcAt, wp_of_some, wp_of_ite, wp_ok, wp_bad, wp_exc, wp_nx, wp_rt, wp_bk, wp_ct, wp_xc, wp_no, getV, borV, Bo.f, BoN.f, Co.f, Bi.f, Tg.t, addD_i, addD_s, addD_t, catD_l, subD_i, mulD_i, mulD_s, mulD_t, repD_l, fdivD_i, modD_i, eqD_s, eqD_i, eqD_b, neD_s, neD_i, neD_b, ltD_i, gtD_i, leD_i, geD_i, isND_n, notND_n, nonD_n, nonD_s, nonD_i, nonD_b, nonD_l, nonD_t, inD_s, ninD_s, ixD_l, ixD_t, lenD_l, lenD_t, lenD_s, max2_i, min2_i, listL_l, listL_t, tupL_l, tupL_t, int1_i, items_l, items_t, items_s, rng1_i, rng2_i, slD_s, slD_t, slN_l, isi_ss, isi_si, isi_sb, isi_sl, isi_st, isi_sn, isi_is, isi_ii, isi_ib, isi_il, isi_it, isi_in, isi_bs, isi_bi, isi_bb, isi_bl, isi_bt, isi_bn, isi_ls, isi_li, isi_lb, isi_ll, isi_lt, isi_ln, isi_ts, isi_ti, isi_tb, isi_tl, isi_tt, isi_tn, tl_s, tl_i, tl_b, tl_l, tl_t, tl_n, List.getElem?_cons_zero, List.getElem?_cons_succ, List.set_cons_zero, List.set_cons_succ, List.length_cons, List.length_nil, Nat.reduceAdd, Nat.reduceLT, Nat.reduceLeDiff, Nat.zero_lt_succ, D.bl.injEq, D.int.injEq, D.str.injEq, exists_eq_left', exists_eq_left, true_and, and_true, forall_const, Bool.true_and, Bool.and_true, Bool.false_eq_true, Bool.not_true, Bool.not_false, if_true, true_implies, false_implies, eq_self, Bool.true_eq_false, reduceCtorEq, decide_true, decide_eq_true_eq, decide_eq_false_iff_not, Decidable.not_not, beq_self_eq_true, not_true_eq_false, not_false_eq_true, Bool.not_eq_true', Bool.not_eq_false', Option.some.injEq, wipeD, List.map_cons, List.map_nil, List.foldr_cons, List.foldr_nil, tgName, tgTup, tgNames, Option.bind_some, and_self])
  clear hcode t2 hm t1
  rw [w_scons]
  (try simp only [w_var, w_bor, w_kint, w_kstr, w_kbl, w_knon, w_gint, w_gstr, w_bin, w_binN, w_cmp, w_ix, w_chn, chnW_b, w_neg, w_notv, w_one, w_andv, w_orv, w_ite, w_tup, w_lst, w_cal, w_listN, w_tupC, w_intC, w_isi, w_isi2', w_sl, w_slN, w_pn, w_ps, w_nil, w_cons, w_tval, w_tcmp, w_tchn, w_tnot, w_tw, w_tone, w_tyes, w_tand, w_tor, w_seq, w_r1, w_r2, w_r3, w_fld, w_prop, w_enu, w_lrg, w_ltx, w_srt, Fl.f, w_snil, w_ret, w_retN, w_asg, w_own, w_expr, w_if, w_for, w_brk, w_cnt, w_pass, w_raise, w_app2, ownL_o, w_par, w_unp, w_lcAf, w_lcAt, wp_of_some, wp_of_ite, wp_ok, wp_bad, wp_exc, wp_nx, wp_rt, wp_bk, wp_ct, wp_xc, wp_no, getV, borV, Bo.f, BoN.f, Co.f, Bi.f, Tg.t, addD_i, addD_s, addD_t, catD_l, subD_i, mulD_i, mulD_s, mulD_t, repD_l, fdivD_i, modD_i, eqD_s, eqD_i, eqD_b, neD_s, neD_i, neD_b, ltD_i, gtD_i, leD_i, geD_i, isND_n, notND_n, nonD_n, nonD_s, nonD_i, nonD_b, nonD_l, nonD_t, inD_s, ninD_s, ixD_l, ixD_t, lenD_l, lenD_t, lenD_s, max2_i, min2_i, listL_l, listL_t, tupL_l, tupL_t, int1_i, items_l, items_t, items_s, rng1_i, rng2_i, slD_s, slD_t, slN_l, isi_ss, isi_si, isi_sb, isi_sl, isi_st, isi_sn, isi_is, isi_ii, isi_ib, isi_il, isi_it, isi_in, isi_bs, isi_bi, isi_bb, isi_bl, isi_bt, isi_bn, isi_ls, isi_li, isi_lb, isi_ll, isi_lt, isi_ln, isi_ts, isi_ti, isi_tb, isi_tl, isi_tt, isi_tn, tl_s, tl_i, tl_b, tl_l, tl_t, tl_n, List.getElem?_cons_zero, List.getElem?_cons_succ, List.set_cons_zero, List.set_cons_succ, List.length_cons, List.length_nil, Nat.reduceAdd, Nat.reduceLT, Nat.reduceLeDiff, Nat.zero_lt_succ, D.bl.injEq, D.int.injEq, D.str.injEq, exists_eq_left', exists_eq_left, true_and, and_true, forall_const, Bool.true_and, Bool.and_true, Bool.false_eq_true, Bool.not_true, Bool.not_false, if_true, true_implies, false_implies, eq_self, Bool.true_eq_false, reduceCtorEq, decide_true, decide_eq_true_eq, decide_eq_false_iff_not, Decidable.not_not, beq_self_eq_true, not_true_eq_false, not_false_eq_true, Bool.not_eq_true', Bool.not_eq_false', Option.some.injEq, wipeD, List.map_cons, List.map_nil, List.foldr_cons, List.foldr_nil, tgName, tgTup, tgNames, Option.bind_some, and_self])
  refine wp_lcm (fun i : Nat => .int (0 + (i : Int))) (fun i => .lst ((ws.map fun w => w.take i).map .str)) ?_
  (try simp only [w_var, w_bor, w_kint, w_kstr, w_kbl, w_knon, w_gint, w_gstr, w_bin, w_binN, w_cmp, w_ix, w_chn, chnW_b, w_neg, w_notv, w_one, w_andv, w_orv, w_ite, w_tup, w_lst, w_cal, w_listN, w_tupC, w_intC, w_isi, w_isi2', w_sl, w_slN, w_pn, w_ps, w_nil, w_cons, w_tval, w_tcmp, w_tchn, w_tnot, w_tw, w_tone, w_tyes, w_tand, w_tor, w_seq, w_r1, w_r2, w_r3, w_fld, w_prop, w_enu, w_lrg, w_ltx, w_srt, Fl.f, w_snil, w_ret, w_retN, w_asg, w_own, w_expr, w_if, w_for, w_brk, w_cnt, w_pass, w_raise, w_app2, ownL_o, w_par, w_unp, w_lcAf, w_lcAt, wp_of_some, wp_of_ite, wp_ok, wp_bad, wp_exc, wp_nx, wp_rt, wp_bk, wp_ct, wp_xc, wp_no, getV, borV, Bo.f, BoN.f, Co.f, Bi.f, Tg.t, addD_i, addD_s, addD_t, catD_l, subD_i, mulD_i, mulD_s, mulD_t, repD_l, fdivD_i, modD_i, eqD_s, eqD_i, eqD_b, neD_s, neD_i, neD_b, ltD_i, gtD_i, leD_i, geD_i, isND_n, notND_n, nonD_n, nonD_s, nonD_i, nonD_b, nonD_l, nonD_t, inD_s, ninD_s, ixD_l, ixD_t, lenD_l, lenD_t, lenD_s, max2_i, min2_i, listL_l, listL_t, tupL_l, tupL_t, int1_i, items_l, items_t, items_s, rng1_i, rng2_i, slD_s, slD_t, slN_l, isi_ss, isi_si, isi_sb, isi_sl, isi_st, isi_sn, isi_is, isi_ii, isi_ib, isi_il, isi_it, isi_in, isi_bs, isi_bi, isi_bb, isi_bl, isi_bt, isi_bn, isi_ls, isi_li, isi_lb, isi_ll, isi_lt, isi_ln, isi_ts, isi_ti, isi_tb, isi_tl, isi_tt, isi_tn, tl_s, tl_i, tl_b, tl_l, tl_t, tl_n, List.getElem?_cons_zero, List.getElem?_cons_succ, List.set_cons_zero, List.set_cons_succ, List.length_cons, List.length_nil, Nat.reduceAdd, Nat.reduceLT, Nat.reduceLeDiff, Nat.zero_lt_succ, D.bl.injEq, D.int.injEq, D.str.injEq, exists_eq_left', exists_eq_left, true_and, and_true, forall_const, Bool.true_and, Bool.and_true, Bool.false_eq_true, Bool.not_true, Bool.not_false, if_true, true_implies, false_implies, eq_self, Bool.true_eq_false, reduceCtorEq, decide_true, decide_eq_true_eq, decide_eq_false_iff_not, Decidable.not_not, beq_self_eq_true, not_true_eq_false, not_false_eq_true, Bool.not_eq_true', Bool.not_eq_false', Option.some.injEq, wipeD, List.map_cons, List.map_nil, List.foldr_cons, List.foldr_nil, tgName, tgTup, tgNames, Option.bind_some, and_self])
  refine ⟨by (first | omega | with_reducible assumption | (refine LN_le ?_; (try simp only [rot_len, List.length_append, List.length_drop, List.length_take, List.length_map, List.length_cons, List.length_nil, List.length_range, rangeD_len]); omega) | (refine LN_lt ?_; (try simp only [rot_len, List.length_append, List.length_drop, List.length_take, List.length_map, List.length_cons, List.length_nil, List.length_range, rangeD_len]); omega) | (refine big_le ?_ ?_ <;> (try simp only [rot_len, List.length_append, List.length_drop, List.length_take, List.length_map, List.length_cons, List.length_nil, List.length_range, rangeD_len]) <;> omega) | (refine big2 (big_le ?_ ?_) (big_le ?_ ?_) <;> (try simp only [rot_len, List.length_append, List.length_drop, List.length_take, List.length_map, List.length_cons, List.length_nil, List.length_range, rangeD_len]) <;> omega)), rfl, List.range n, by unfold rangeD; rw [show y.toNat = n by omega], by (first | omega | with_reducible assumption | (refine LN_le ?_; (try simp only [rot_len, List.length_append, List.length_drop, List.length_take, List.length_map, List.length_cons, List.length_nil, List.length_range, rangeD_len]); omega) | (refine LN_lt ?_; (try simp only [rot_len, List.length_append, List.length_drop, List.length_take, List.length_map, List.length_cons, List.length_nil, List.length_range, rangeD_len]); omega) | (refine big_le ?_ ?_ <;> (try simp only [rot_len, List.length_append, List.length_drop, List.length_take, List.length_map, List.length_cons, List.length_nil, List.length_range, rangeD_len]) <;> omega) | (refine big2 (big_le ?_ ?_) (big_le ?_ ?_) <;> (try simp only [rot_len, List.length_append, List.length_drop, List.length_take, List.length_map, List.length_cons, List.length_nil, List.length_range, rangeD_len]) <;> omega)), fun i hi => ?_, ?_⟩
  · refine wp_lcm (fun w : Wd => .str w) (fun w => .str (w.take i)) ?_
    (try simp only [w_var, w_bor, w_kint, w_kstr, w_kbl, w_knon, w_gint, w_gstr, w_bin, w_binN, w_cmp, w_ix, w_chn, chnW_b, w_neg, w_notv, w_one, w_andv, w_orv, w_ite, w_tup, w_lst, w_cal, w_listN, w_tupC, w_intC, w_isi, w_isi2', w_sl, w_slN, w_pn, w_ps, w_nil, w_cons, w_tval, w_tcmp, w_tchn, w_tnot, w_tw, w_tone, w_tyes, w_tand, w_tor, w_seq, w_r1, w_r2, w_r3, w_fld, w_prop, w_enu, w_lrg, w_ltx, w_srt, Fl.f, w_snil, w_ret, w_retN, w_asg, w_own, w_expr, w_if, w_for, w_brk, w_cnt, w_pass, w_raise, w_app2, ownL_o, w_par, w_unp, w_lcAf, w_lcAt, wp_of_some, wp_of_ite, wp_ok, wp_bad, wp_exc, wp_nx, wp_rt, wp_bk, wp_ct, wp_xc, wp_no, getV, borV, Bo.f, BoN.f, Co.f, Bi.f, Tg.t, addD_i, addD_s, addD_t, catD_l, subD_i, mulD_i, mulD_s, mulD_t, repD_l, fdivD_i, modD_i, eqD_s, eqD_i, eqD_b, neD_s, neD_i, neD_b, ltD_i, gtD_i, leD_i, geD_i, isND_n, notND_n, nonD_n, nonD_s, nonD_i, nonD_b, nonD_l, nonD_t, inD_s, ninD_s, ixD_l, ixD_t, lenD_l, lenD_t, lenD_s, max2_i, min2_i, listL_l, listL_t, tupL_l, tupL_t, int1_i, items_l, items_t, items_s, rng1_i, rng2_i, slD_s, slD_t, slN_l, isi_ss, isi_si, isi_sb, isi_sl, isi_st, isi_sn, isi_is, isi_ii, isi_ib, isi_il, isi_it, isi_in, isi_bs, isi_bi, isi_bb, isi_bl, isi_bt, isi_bn, isi_ls, isi_li, isi_lb, isi_ll, isi_lt, isi_ln, isi_ts, isi_ti, isi_tb, isi_tl, isi_tt, isi_tn, tl_s, tl_i, tl_b, tl_l, tl_t, tl_n, List.getElem?_cons_zero, List.getElem?_cons_succ, List.set_cons_zero, List.set_cons_succ, List.length_cons, List.length_nil, Nat.reduceAdd, Nat.reduceLT, Nat.reduceLeDiff, Nat.zero_lt_succ, D.bl.injEq, D.int.injEq, D.str.injEq, exists_eq_left', exists_eq_left, true_and, and_true, forall_const, Bool.true_and, Bool.and_true, Bool.false_eq_true, Bool.not_true, Bool.not_false, if_true, true_implies, false_implies, eq_self, Bool.true_eq_false, reduceCtorEq, decide_true, decide_eq_true_eq, decide_eq_false_iff_not, Decidable.not_not, beq_self_eq_true, not_true_eq_false, not_false_eq_true, Bool.not_eq_true', Bool.not_eq_false', Option.some.injEq, wipeD, List.map_cons, List.map_nil, List.foldr_cons, List.foldr_nil, tgName, tgTup, tgNames, Option.bind_some, and_self])
    refine ⟨rfl, ws, rfl, by (first | omega | with_reducible assumption | (refine LN_le ?_; (try simp only [rot_len, List.length_append, List.length_drop, List.length_take, List.length_map, List.length_cons, List.length_nil, List.length_range, rangeD_len]); omega) | (refine LN_lt ?_; (try simp only [rot_len, List.length_append, List.length_drop, List.length_take, List.length_map, List.length_cons, List.length_nil, List.length_range, rangeD_len]); omega) | (refine big_le ?_ ?_ <;> (try simp only [rot_len, List.length_append, List.length_drop, List.length_take, List.length_map, List.length_cons, List.length_nil, List.length_range, rangeD_len]) <;> omega) | (refine big2 (big_le ?_ ?_) (big_le ?_ ?_) <;> (try simp only [rot_len, List.length_append, List.length_drop, List.length_take, List.length_map, List.length_cons, List.length_nil, List.length_range, rangeD_len]) <;> omega)), fun w hw => ?_, ?_⟩
    · have hwl := ((hmem w).mp hw).1.1
      (try simp only [w_var, w_bor, w_kint, w_kstr, w_kbl, w_knon, w_gint, w_gstr, w_bin, w_binN, w_cmp, w_ix, w_chn, chnW_b, w_neg, w_notv, w_one, w_andv, w_orv, w_ite, w_tup, w_lst, w_cal, w_listN, w_tupC, w_intC, w_isi, w_isi2', w_sl, w_slN, w_pn, w_ps, w_nil, w_cons, w_tval, w_tcmp, w_tchn, w_tnot, w_tw, w_tone, w_tyes, w_tand, w_tor, w_seq, w_r1, w_r2, w_r3, w_fld, w_prop, w_enu, w_lrg, w_ltx, w_srt, Fl.f, w_snil, w_ret, w_retN, w_asg, w_own, w_expr, w_if, w_for, w_brk, w_cnt, w_pass, w_raise, w_app2, ownL_o, w_par, w_unp, w_lcAf, w_lcAt, wp_of_some, wp_of_ite, wp_ok, wp_bad, wp_exc, wp_nx, wp_rt, wp_bk, wp_ct, wp_xc, wp_no, getV, borV, Bo.f, BoN.f, Co.f, Bi.f, Tg.t, addD_i, addD_s, addD_t, catD_l, subD_i, mulD_i, mulD_s, mulD_t, repD_l, fdivD_i, modD_i, eqD_s, eqD_i, eqD_b, neD_s, neD_i, neD_b, ltD_i, gtD_i, leD_i, geD_i, isND_n, notND_n, nonD_n, nonD_s, nonD_i, nonD_b, nonD_l, nonD_t, inD_s, ninD_s, ixD_l, ixD_t, lenD_l, lenD_t, lenD_s, max2_i, min2_i, listL_l, listL_t, tupL_l, tupL_t, int1_i, items_l, items_t, items_s, rng1_i, rng2_i, slD_s, slD_t, slN_l, isi_ss, isi_si, isi_sb, isi_sl, isi_st, isi_sn, isi_is, isi_ii, isi_ib, isi_il, isi_it, isi_in, isi_bs, isi_bi, isi_bb, isi_bl, isi_bt, isi_bn, isi_ls, isi_li, isi_lb, isi_ll, isi_lt, isi_ln, isi_ts, isi_ti, isi_tb, isi_tl, isi_tt, isi_tn, tl_s, tl_i, tl_b, tl_l, tl_t, tl_n, List.getElem?_cons_zero, List.getElem?_cons_succ, List.set_cons_zero, List.set_cons_succ, List.length_cons, List.length_nil, Nat.reduceAdd, Nat.reduceLT, Nat.reduceLeDiff, Nat.zero_lt_succ, D.bl.injEq, D.int.injEq, D.str.injEq, exists_eq_left', exists_eq_left, true_and, and_true, forall_const, Bool.true_and, Bool.and_true, Bool.false_eq_true, Bool.not_true, Bool.not_false, if_true, true_implies, false_implies, eq_self, Bool.true_eq_false, reduceCtorEq, decide_true, decide_eq_true_eq, decide_eq_false_iff_not, Decidable.not_not, beq_self_eq_true, not_true_eq_false, not_false_eq_true, Bool.not_eq_true', Bool.not_eq_false', Option.some.injEq, wipeD, List.map_cons, List.map_nil, List.foldr_cons, List.foldr_nil, tgName, tgTup, tgNames, Option.bind_some, and_self, cut_to _ (show (0 : Int) ≤ 0 + (i : Int) by omega)])
      exact ⟨by (first | omega | with_reducible assumption | (refine LN_le ?_; (try simp only [rot_len, List.length_append, List.length_drop, List.length_take, List.length_map, List.length_cons, List.length_nil, List.length_range, rangeD_len]); omega) | (refine LN_lt ?_; (try simp only [rot_len, List.length_append, List.length_drop, List.length_take, List.length_map, List.length_cons, List.length_nil, List.length_range, rangeD_len]); omega) | (refine big_le ?_ ?_ <;> (try simp only [rot_len, List.length_append, List.length_drop, List.length_take, List.length_map, List.length_cons, List.length_nil, List.length_range, rangeD_len]) <;> omega) | (refine big2 (big_le ?_ ?_) (big_le ?_ ?_) <;> (try simp only [rot_len, List.length_append, List.length_drop, List.length_take, List.length_map, List.length_cons, List.length_nil, List.length_range, rangeD_len]) <;> omega)), by rw [show (0 + (i : Int)).toNat = i by omega]⟩
    · rw [List.map_map]; rfl
  rw [w_scons]
  (try simp only [w_var, w_bor, w_kint, w_kstr, w_kbl, w_knon, w_gint, w_gstr, w_bin, w_binN, w_cmp, w_ix, w_chn, chnW_b, w_neg, w_notv, w_one, w_andv, w_orv, w_ite, w_tup, w_lst, w_cal, w_listN, w_tupC, w_intC, w_isi, w_isi2', w_sl, w_slN, w_pn, w_ps, w_nil, w_cons, w_tval, w_tcmp, w_tchn, w_tnot, w_tw, w_tone, w_tyes, w_tand, w_tor, w_seq, w_r1, w_r2, w_r3, w_fld, w_prop, w_enu, w_lrg, w_ltx, w_srt, Fl.f, w_snil, w_ret, w_retN, w_asg, w_own, w_expr, w_if, w_for, w_brk, w_cnt, w_pass, w_raise, w_app2, ownL_o, w_par, w_unp, w_lcAf, w_lcAt, wp_of_some, wp_of_ite, wp_ok, wp_bad, wp_exc, wp_nx, wp_rt, wp_bk, wp_ct, wp_xc, wp_no, getV, borV, Bo.f, BoN.f, Co.f, Bi.f, Tg.t, addD_i, addD_s, addD_t, catD_l, subD_i, mulD_i, mulD_s, mulD_t, repD_l, fdivD_i, modD_i, eqD_s, eqD_i, eqD_b, neD_s, neD_i, neD_b, ltD_i, gtD_i, leD_i, geD_i, isND_n, notND_n, nonD_n, nonD_s, nonD_i, nonD_b, nonD_l, nonD_t, inD_s, ninD_s, ixD_l, ixD_t, lenD_l, lenD_t, lenD_s, max2_i, min2_i, listL_l, listL_t, tupL_l, tupL_t, int1_i, items_l, items_t, items_s, rng1_i, rng2_i, slD_s, slD_t, slN_l, isi_ss, isi_si, isi_sb, isi_sl, isi_st, isi_sn, isi_is, isi_ii, isi_ib, isi_il, isi_it, isi_in, isi_bs, isi_bi, isi_bb, isi_bl, isi_bt, isi_bn, isi_ls, isi_li, isi_lb, isi_ll, isi_lt, isi_ln, isi_ts, isi_ti, isi_tb, isi_tl, isi_tt, isi_tn, tl_s, tl_i, tl_b, tl_l, tl_t, tl_n, List.getElem?_cons_zero, List.getElem?_cons_succ, List.set_cons_zero, List.set_cons_succ, List.length_cons, List.length_nil, Nat.reduceAdd, Nat.reduceLT, Nat.reduceLeDiff, Nat.zero_lt_succ, D.bl.injEq, D.int.injEq, D.str.injEq, exists_eq_left', exists_eq_left, true_and, and_true, forall_const, Bool.true_and, Bool.and_true, Bool.false_eq_true, Bool.not_true, Bool.not_false, if_true, true_implies, false_implies, eq_self, Bool.true_eq_false, reduceCtorEq, decide_true, decide_eq_true_eq, decide_eq_false_iff_not, Decidable.not_not, beq_self_eq_true, not_true_eq_false, not_false_eq_true, Bool.not_eq_true', Bool.not_eq_false', Option.some.injEq, wipeD, List.map_cons, List.map_nil, List.foldr_cons, List.foldr_nil, tgName, tgTup, tgNames, Option.bind_some, and_self])
  refine wp_lcm (fun i : Nat => .int (0 + (i : Int))) (fun i => .lst ((ws.map fun w => w.drop i).map .str)) ?_
  (try simp only [w_var, w_bor, w_kint, w_kstr, w_kbl, w_knon, w_gint, w_gstr, w_bin, w_binN, w_cmp, w_ix, w_chn, chnW_b, w_neg, w_notv, w_one, w_andv, w_orv, w_ite, w_tup, w_lst, w_cal, w_listN, w_tupC, w_intC, w_isi, w_isi2', w_sl, w_slN, w_pn, w_ps, w_nil, w_cons, w_tval, w_tcmp, w_tchn, w_tnot, w_tw, w_tone, w_tyes, w_tand, w_tor, w_seq, w_r1, w_r2, w_r3, w_fld, w_prop, w_enu, w_lrg, w_ltx, w_srt, Fl.f, w_snil, w_ret, w_retN, w_asg, w_own, w_expr, w_if, w_for, w_brk, w_cnt, w_pass, w_raise, w_app2, ownL_o, w_par, w_unp, w_lcAf, w_lcAt, wp_of_some, wp_of_ite, wp_ok, wp_bad, wp_exc, wp_nx, wp_rt, wp_bk, wp_ct, wp_xc, wp_no, getV, borV, Bo.f, BoN.f, Co.f, Bi.f, Tg.t, addD_i, addD_s, addD_t, catD_l, subD_i, mulD_i, mulD_s, mulD_t, repD_l, fdivD_i, modD_i, eqD_s, eqD_i, eqD_b, neD_s, neD_i, neD_b, ltD_i, gtD_i, leD_i, geD_i, isND_n, notND_n, nonD_n, nonD_s, nonD_i, nonD_b, nonD_l, nonD_t, inD_s, ninD_s, ixD_l, ixD_t, lenD_l, lenD_t, lenD_s, max2_i, min2_i, listL_l, listL_t, tupL_l, tupL_t, int1_i, items_l, items_t, items_s, rng1_i, rng2_i, slD_s, slD_t, slN_l, isi_ss, isi_si, isi_sb, isi_sl, isi_st, isi_sn, isi_is, isi_ii, isi_ib, isi_il, isi_it, isi_in, isi_bs, isi_bi, isi_bb, isi_bl, isi_bt, isi_bn, isi_ls, isi_li, isi_lb, isi_ll, isi_lt, isi_ln, isi_ts, isi_ti, isi_tb, isi_tl, isi_tt, isi_tn, tl_s, tl_i, tl_b, tl_l, tl_t, tl_n, List.getElem?_cons_zero, List.getElem?_cons_succ, List.set_cons_zero, List.set_cons_succ, List.length_cons, List.length_nil, Nat.reduceAdd, Nat.reduceLT, Nat.reduceLeDiff, Nat.zero_lt_succ, D.bl.injEq, D.int.injEq, D.str.injEq, exists_eq_left', exists_eq_left, true_and, and_true, forall_const, Bool.true_and, Bool.and_true, Bool.false_eq_true, Bool.not_true, Bool.not_false, if_true, true_implies, false_implies, eq_self, Bool.true_eq_false, reduceCtorEq, decide_true, decide_eq_true_eq, decide_eq_false_iff_not, Decidable.not_not, beq_self_eq_true, not_true_eq_false, not_false_eq_true, Bool.not_eq_true', Bool.not_eq_false', Option.some.injEq, wipeD, List.map_cons, List.map_nil, List.foldr_cons, List.foldr_nil, tgName, tgTup, tgNames, Option.bind_some, and_self])
  refine ⟨by (first | omega | with_reducible assumption | (refine LN_le ?_; (try simp only [rot_len, List.length_append, List.length_drop, List.length_take, List.length_map, List.length_cons, List.length_nil, List.length_range, rangeD_len]); omega) | (refine LN_lt ?_; (try simp only [rot_len, List.length_append, List.length_drop, List.length_take, List.length_map, List.length_cons, List.length_nil, List.length_range, rangeD_len]); omega) | (refine big_le ?_ ?_ <;> (try simp only [rot_len, List.length_append, List.length_drop, List.length_take, List.length_map, List.length_cons, List.length_nil, List.length_range, rangeD_len]) <;> omega) | (refine big2 (big_le ?_ ?_) (big_le ?_ ?_) <;> (try simp only [rot_len, List.length_append, List.length_drop, List.length_take, List.length_map, List.length_cons, List.length_nil, List.length_range, rangeD_len]) <;> omega)), rfl, List.range n, by unfold rangeD; rw [show y.toNat = n by omega], by (first | omega | with_reducible assumption | (refine LN_le ?_; (try simp only [rot_len, List.length_append, List.length_drop, List.length_take, List.length_map, List.length_cons, List.length_nil, List.length_range, rangeD_len]); omega) | (refine LN_lt ?_; (try simp only [rot_len, List.length_append, List.length_drop, List.length_take, List.length_map, List.length_cons, List.length_nil, List.length_range, rangeD_len]); omega) | (refine big_le ?_ ?_ <;> (try simp only [rot_len, List.length_append, List.length_drop, List.length_take, List.length_map, List.length_cons, List.length_nil, List.length_range, rangeD_len]) <;> omega) | (refine big2 (big_le ?_ ?_) (big_le ?_ ?_) <;> (try simp only [rot_len, List.length_append, List.length_drop, List.length_take, List.length_map, List.length_cons, List.length_nil, List.length_range, rangeD_len]) <;> omega)), fun i hi => ?_, ?_⟩
  · refine wp_lcm (fun w : Wd => .str w) (fun w => .str (w.drop i)) ?_
    (try simp only [w_var, w_bor, w_kint, w_kstr, w_kbl, w_knon, w_gint, w_gstr, w_bin, w_binN, w_cmp, w_ix, w_chn, chnW_b, w_neg, w_notv, w_one, w_andv, w_orv, w_ite, w_tup, w_lst, w_cal, w_listN, w_tupC, w_intC, w_isi, w_isi2', w_sl, w_slN, w_pn, w_ps, w_nil, w_cons, w_tval, w_tcmp, w_tchn, w_tnot, w_tw, w_tone, w_tyes, w_tand, w_tor, w_seq, w_r1, w_r2, w_r3, w_fld, w_prop, w_enu, w_lrg, w_ltx, w_srt, Fl.f, w_snil, w_ret, w_retN, w_asg, w_own, w_expr, w_if, w_for, w_brk, w_cnt, w_pass, w_raise, w_app2, ownL_o, w_par, w_unp, w_lcAf, w_lcAt, wp_of_some, wp_of_ite, wp_ok, wp_bad, wp_exc, wp_nx, wp_rt, wp_bk, wp_ct, wp_xc, wp_no, getV, borV, Bo.f, BoN.f, Co.f, Bi.f, Tg.t, addD_i, addD_s, addD_t, catD_l, subD_i, mulD_i, mulD_s, mulD_t, repD_l, fdivD_i, modD_i, eqD_s, eqD_i, eqD_b, neD_s, neD_i, neD_b, ltD_i, gtD_i, leD_i, geD_i, isND_n, notND_n, nonD_n, nonD_s, nonD_i, nonD_b, nonD_l, nonD_t, inD_s, ninD_s, ixD_l, ixD_t, lenD_l, lenD_t, lenD_s, max2_i, min2_i, listL_l, listL_t, tupL_l, tupL_t, int1_i, items_l, items_t, items_s, rng1_i, rng2_i, slD_s, slD_t, slN_l, isi_ss, isi_si, isi_sb, isi_sl, isi_st, isi_sn, isi_is, isi_ii, isi_ib, isi_il, isi_it, isi_in, isi_bs, isi_bi, isi_bb, isi_bl, isi_bt, isi_bn, isi_ls, isi_li, isi_lb, isi_ll, isi_lt, isi_ln, isi_ts, isi_ti, isi_tb, isi_tl, isi_tt, isi_tn, tl_s, tl_i, tl_b, tl_l, tl_t, tl_n, List.getElem?_cons_zero, List.getElem?_cons_succ, List.set_cons_zero, List.set_cons_succ, List.length_cons, List.length_nil, Nat.reduceAdd, Nat.reduceLT, Nat.reduceLeDiff, Nat.zero_lt_succ, D.bl.injEq, D.int.injEq, D.str.injEq, exists_eq_left', exists_eq_left, true_and, and_true, forall_const, Bool.true_and, Bool.and_true, Bool.false_eq_true, Bool.not_true, Bool.not_false, if_true, true_implies, false_implies, eq_self, Bool.true_eq_false, reduceCtorEq, decide_true, decide_eq_true_eq, decide_eq_false_iff_not, Decidable.not_not, beq_self_eq_true, not_true_eq_false, not_false_eq_true, Bool.not_eq_true', Bool.not_eq_false', Option.some.injEq, wipeD, List.map_cons, List.map_nil, List.foldr_cons, List.foldr_nil, tgName, tgTup, tgNames, Option.bind_some, and_self])
    refine ⟨rfl, ws, rfl, by (first | omega | with_reducible assumption | (refine LN_le ?_; (try simp only [rot_len, List.length_append, List.length_drop, List.length_take, List.length_map, List.length_cons, List.length_nil, List.length_range, rangeD_len]); omega) | (refine LN_lt ?_; (try simp only [rot_len, List.length_append, List.length_drop, List.length_take, List.length_map, List.length_cons, List.length_nil, List.length_range, rangeD_len]); omega) | (refine big_le ?_ ?_ <;> (try simp only [rot_len, List.length_append, List.length_drop, List.length_take, List.length_map, List.length_cons, List.length_nil, List.length_range, rangeD_len]) <;> omega) | (refine big2 (big_le ?_ ?_) (big_le ?_ ?_) <;> (try simp only [rot_len, List.length_append, List.length_drop, List.length_take, List.length_map, List.length_cons, List.length_nil, List.length_range, rangeD_len]) <;> omega)), fun w hw => ?_, ?_⟩
    · have hwl := ((hmem w).mp hw).1.1
      (try simp only [w_var, w_bor, w_kint, w_kstr, w_kbl, w_knon, w_gint, w_gstr, w_bin, w_binN, w_cmp, w_ix, w_chn, chnW_b, w_neg, w_notv, w_one, w_andv, w_orv, w_ite, w_tup, w_lst, w_cal, w_listN, w_tupC, w_intC, w_isi, w_isi2', w_sl, w_slN, w_pn, w_ps, w_nil, w_cons, w_tval, w_tcmp, w_tchn, w_tnot, w_tw, w_tone, w_tyes, w_tand, w_tor, w_seq, w_r1, w_r2, w_r3, w_fld, w_prop, w_enu, w_lrg, w_ltx, w_srt, Fl.f, w_snil, w_ret, w_retN, w_asg, w_own, w_expr, w_if, w_for, w_brk, w_cnt, w_pass, w_raise, w_app2, ownL_o, w_par, w_unp, w_lcAf, w_lcAt, wp_of_some, wp_of_ite, wp_ok, wp_bad, wp_exc, wp_nx, wp_rt, wp_bk, wp_ct, wp_xc, wp_no, getV, borV, Bo.f, BoN.f, Co.f, Bi.f, Tg.t, addD_i, addD_s, addD_t, catD_l, subD_i, mulD_i, mulD_s, mulD_t, repD_l, fdivD_i, modD_i, eqD_s, eqD_i, eqD_b, neD_s, neD_i, neD_b, ltD_i, gtD_i, leD_i, geD_i, isND_n, notND_n, nonD_n, nonD_s, nonD_i, nonD_b, nonD_l, nonD_t, inD_s, ninD_s, ixD_l, ixD_t, lenD_l, lenD_t, lenD_s, max2_i, min2_i, listL_l, listL_t, tupL_l, tupL_t, int1_i, items_l, items_t, items_s, rng1_i, rng2_i, slD_s, slD_t, slN_l, isi_ss, isi_si, isi_sb, isi_sl, isi_st, isi_sn, isi_is, isi_ii, isi_ib, isi_il, isi_it, isi_in, isi_bs, isi_bi, isi_bb, isi_bl, isi_bt, isi_bn, isi_ls, isi_li, isi_lb, isi_ll, isi_lt, isi_ln, isi_ts, isi_ti, isi_tb, isi_tl, isi_tt, isi_tn, tl_s, tl_i, tl_b, tl_l, tl_t, tl_n, List.getElem?_cons_zero, List.getElem?_cons_succ, List.set_cons_zero, List.set_cons_succ, List.length_cons, List.length_nil, Nat.reduceAdd, Nat.reduceLT, Nat.reduceLeDiff, Nat.zero_lt_succ, D.bl.injEq, D.int.injEq, D.str.injEq, exists_eq_left', exists_eq_left, true_and, and_true, forall_const, Bool.true_and, Bool.and_true, Bool.false_eq_true, Bool.not_true, Bool.not_false, if_true, true_implies, false_implies, eq_self, Bool.true_eq_false, reduceCtorEq, decide_true, decide_eq_true_eq, decide_eq_false_iff_not, Decidable.not_not, beq_self_eq_true, not_true_eq_false, not_false_eq_true, Bool.not_eq_true', Bool.not_eq_false', Option.some.injEq, wipeD, List.map_cons, List.map_nil, List.foldr_cons, List.foldr_nil, tgName, tgTup, tgNames, Option.bind_some, and_self, cut_from _ (show (0 : Int) ≤ 0 + (i : Int) by omega)])
      exact ⟨by (first | omega | with_reducible assumption | (refine LN_le ?_; (try simp only [rot_len, List.length_append, List.length_drop, List.length_take, List.length_map, List.length_cons, List.length_nil, List.length_range, rangeD_len]); omega) | (refine LN_lt ?_; (try simp only [rot_len, List.length_append, List.length_drop, List.length_take, List.length_map, List.length_cons, List.length_nil, List.length_range, rangeD_len]); omega) | (refine big_le ?_ ?_ <;> (try simp only [rot_len, List.length_append, List.length_drop, List.length_take, List.length_map, List.length_cons, List.length_nil, List.length_range, rangeD_len]) <;> omega) | (refine big2 (big_le ?_ ?_) (big_le ?_ ?_) <;> (try simp only [rot_len, List.length_append, List.length_drop, List.length_take, List.length_map, List.length_cons, List.length_nil, List.length_range, rangeD_len]) <;> omega)), by rw [show (0 + (i : Int)).toNat = i by omega]⟩
    · rw [List.map_map]; rfl
  generalize hhe : (List.range n).map (fun i => D.lst ((ws.map fun w => w.take i).map .str)) = he
  generalize hta : (List.range n).map (fun i => D.lst ((ws.map fun w => w.drop i).map .str)) = ta
  have hhe2 : ∀ k, k < n → he[k]? = some (D.lst ((ws.map fun w => w.take k).map .str)) := fun k hk => by rw [← hhe, List.getElem?_map, List.getElem?_range hk]; rfl
  have hta2 : ∀ k, k < n → ta[k]? = some (D.lst ((ws.map fun w => w.drop k).map .str)) := fun k hk => by rw [← hta, List.getElem?_map, List.getElem?_range hk]; rfl
  rw [w_scons]
  (try simp only [w_var, w_bor, w_kint, w_kstr, w_kbl, w_knon, w_gint, w_gstr, w_bin, w_binN, w_cmp, w_ix, w_chn, chnW_b, w_neg, w_notv, w_one, w_andv, w_orv, w_ite, w_tup, w_lst, w_cal, w_listN, w_tupC, w_intC, w_isi, w_isi2', w_sl, w_slN, w_pn, w_ps, w_nil, w_cons, w_tval, w_tcmp, w_tchn, w_tnot, w_tw, w_tone, w_tyes, w_tand, w_tor, w_seq, w_r1, w_r2, w_r3, w_fld, w_prop, w_enu, w_lrg, w_ltx, w_srt, Fl.f, w_snil, w_ret, w_retN, w_asg, w_own, w_expr, w_if, w_for, w_brk, w_cnt, w_pass, w_raise, w_app2, ownL_o, w_par, w_unp, w_lcAf, w_lcAt, wp_of_some, wp_of_ite, wp_ok, wp_bad, wp_exc, wp_nx, wp_rt, wp_bk, wp_ct, wp_xc, wp_no, getV, borV, Bo.f, BoN.f, Co.f, Bi.f, Tg.t, addD_i, addD_s, addD_t, catD_l, subD_i, mulD_i, mulD_s, mulD_t, repD_l, fdivD_i, modD_i, eqD_s, eqD_i, eqD_b, neD_s, neD_i, neD_b, ltD_i, gtD_i, leD_i, geD_i, isND_n, notND_n, nonD_n, nonD_s, nonD_i, nonD_b, nonD_l, nonD_t, inD_s, ninD_s, ixD_l, ixD_t, lenD_l, lenD_t, lenD_s, max2_i, min2_i, listL_l, listL_t, tupL_l, tupL_t, int1_i, items_l, items_t, items_s, rng1_i, rng2_i, slD_s, slD_t, slN_l, isi_ss, isi_si, isi_sb, isi_sl, isi_st, isi_sn, isi_is, isi_ii, isi_ib, isi_il, isi_it, isi_in, isi_bs, isi_bi, isi_bb, isi_bl, isi_bt, isi_bn, isi_ls, isi_li, isi_lb, isi_ll, isi_lt, isi_ln, isi_ts, isi_ti, isi_tb, isi_tl, isi_tt, isi_tn, tl_s, tl_i, tl_b, tl_l, tl_t, tl_n, List.getElem?_cons_zero, List.getElem?_cons_succ, List.set_cons_zero, List.set_cons_succ, List.length_cons, List.length_nil, Nat.reduceAdd, Nat.reduceLT, Nat.reduceLeDiff, Nat.zero_lt_succ, D.bl.injEq, D.int.injEq, D.str.injEq, exists_eq_left', exists_eq_left, true_and, and_true, forall_const, Bool.true_and, Bool.and_true, Bool.false_eq_true, Bool.not_true, Bool.not_false, if_true, true_implies, false_implies, eq_self, Bool.true_eq_false, reduceCtorEq, decide_true, decide_eq_true_eq, decide_eq_false_iff_not, Decidable.not_not, beq_self_eq_true, not_true_eq_false, not_false_eq_true, Bool.not_eq_true', Bool.not_eq_false', Option.some.injEq, wipeD, List.map_cons, List.map_nil, List.foldr_cons, List.foldr_nil, tgName, tgTup, tgNames, Option.bind_some, and_self])
  refine wp_forL (fun items s => ∃ (todo : List Wd) (a b : Option DV), s = ⟨[none, some .src, some (.im (.lst (ws.map .str))), some (.im (.lst he)), some (.im (.lst ta)), a, none, some (.im (.int x)), some (.im (.int y)), b], sr2⟩ ∧ items = todo.map .str ∧ (∀ w, w ∈ todo → w ∈ ws)) _ _ ⟨ws, _, _, rfl, rfl, fun w h => h⟩ ?_ ?_
  · rintro dw r s ⟨todo, a, b, rfl, hit, ht⟩
    cases todo with
    | nil => cases hit
    | cons w todo =>
      rw [List.map_cons] at hit
      obtain ⟨rfl, rfl⟩ := List.cons.inj hit
      have hw := ht w List.mem_cons_self
      obtain ⟨⟨w1, w2⟩, w3⟩ := (hmem w).mp hw
      have hL4 : isL 4 w := isL_up w2 t7
      have hsi := sgl_simple w3
      have ho : oddW w := w3.odd
      obtain ⟨z1, a1, _, ha1, sg1, _, ct1⟩ := v_ring hL4 (by omega) (by omega) ho hsi
      have hct : rot w a1 = w := by
        rcases sgl_turn w3 sg1 ha1 with q | q
        · rw [q, rot_zero]
        · exact q
      rw [hct] at ct1
      refine ⟨_, rfl, ?_⟩
      rw [w_scons]
      (try simp only [w_var, w_bor, w_kint, w_kstr, w_kbl, w_knon, w_gint, w_gstr, w_bin, w_binN, w_cmp, w_ix, w_chn, chnW_b, w_neg, w_notv, w_one, w_andv, w_orv, w_ite, w_tup, w_lst, w_cal, w_listN, w_tupC, w_intC, w_isi, w_isi2', w_sl, w_slN, w_pn, w_ps, w_nil, w_cons, w_tval, w_tcmp, w_tchn, w_tnot, w_tw, w_tone, w_tyes, w_tand, w_tor, w_seq, w_r1, w_r2, w_r3, w_fld, w_prop, w_enu, w_lrg, w_ltx, w_srt, Fl.f, w_snil, w_ret, w_retN, w_asg, w_own, w_expr, w_if, w_for, w_brk, w_cnt, w_pass, w_raise, w_app2, ownL_o, w_par, w_unp, w_lcAf, w_lcAt, wp_of_some, wp_of_ite, wp_ok, wp_bad, wp_exc, wp_nx, wp_rt, wp_bk, wp_ct, wp_xc, wp_no, getV, borV, Bo.f, BoN.f, Co.f, Bi.f, Tg.t, addD_i, addD_s, addD_t, catD_l, subD_i, mulD_i, mulD_s, mulD_t, repD_l, fdivD_i, modD_i, eqD_s, eqD_i, eqD_b, neD_s, neD_i, neD_b, ltD_i, gtD_i, leD_i, geD_i, isND_n, notND_n, nonD_n, nonD_s, nonD_i, nonD_b, nonD_l, nonD_t, inD_s, ninD_s, ixD_l, ixD_t, lenD_l, lenD_t, lenD_s, max2_i, min2_i, listL_l, listL_t, tupL_l, tupL_t, int1_i, items_l, items_t, items_s, rng1_i, rng2_i, slD_s, slD_t, slN_l, isi_ss, isi_si, isi_sb, isi_sl, isi_st, isi_sn, isi_is, isi_ii, isi_ib, isi_il, isi_it, isi_in, isi_bs, isi_bi, isi_bb, isi_bl, isi_bt, isi_bn, isi_ls, isi_li, isi_lb, isi_ll, isi_lt, isi_ln, isi_ts, isi_ti, isi_tb, isi_tl, isi_tt, isi_tn, tl_s, tl_i, tl_b, tl_l, tl_t, tl_n, List.getElem?_cons_zero, List.getElem?_cons_succ, List.set_cons_zero, List.set_cons_succ, List.length_cons, List.length_nil, Nat.reduceAdd, Nat.reduceLT, Nat.reduceLeDiff, Nat.zero_lt_succ, D.bl.injEq, D.int.injEq, D.str.injEq, exists_eq_left', exists_eq_left, true_and, and_true, forall_const, Bool.true_and, Bool.and_true, Bool.false_eq_true, Bool.not_true, Bool.not_false, if_true, true_implies, false_implies, eq_self, Bool.true_eq_false, reduceCtorEq, decide_true, decide_eq_true_eq, decide_eq_false_iff_not, Decidable.not_not, beq_self_eq_true, not_true_eq_false, not_false_eq_true, Bool.not_eq_true', Bool.not_eq_false', Option.some.injEq, wipeD, List.map_cons, List.map_nil, List.foldr_cons, List.foldr_nil, tgName, tgTup, tgNames, Option.bind_some, and_self])
      refine And.intro (by (first | omega | with_reducible assumption | (refine LN_le ?_; (try simp only [rot_len, List.length_append, List.length_drop, List.length_take, List.length_map, List.length_cons, List.length_nil, List.length_range, rangeD_len]); omega) | (refine LN_lt ?_; (try simp only [rot_len, List.length_append, List.length_drop, List.length_take, List.length_map, List.length_cons, List.length_nil, List.length_range, rangeD_len]); omega) | (refine big_le ?_ ?_ <;> (try simp only [rot_len, List.length_append, List.length_drop, List.length_take, List.length_map, List.length_cons, List.length_nil, List.length_range, rangeD_len]) <;> omega) | (refine big2 (big_le ?_ ?_) (big_le ?_ ?_) <;> (try simp only [rot_len, List.length_append, List.length_drop, List.length_take, List.length_map, List.length_cons, List.length_nil, List.length_range, rangeD_len]) <;> omega))) (And.intro (fun _ => ?_) (fun h => absurd (show ((w.length : Nat) : Int) = y by omega) h))
      refine wp_call rfl ?_
      (try simp only [w_var, w_bor, w_kint, w_kstr, w_kbl, w_knon, w_gint, w_gstr, w_bin, w_binN, w_cmp, w_ix, w_chn, chnW_b, w_neg, w_notv, w_one, w_andv, w_orv, w_ite, w_tup, w_lst, w_cal, w_listN, w_tupC, w_intC, w_isi, w_isi2', w_sl, w_slN, w_pn, w_ps, w_nil, w_cons, w_tval, w_tcmp, w_tchn, w_tnot, w_tw, w_tone, w_tyes, w_tand, w_tor, w_seq, w_r1, w_r2, w_r3, w_fld, w_prop, w_enu, w_lrg, w_ltx, w_srt, Fl.f, w_snil, w_ret, w_retN, w_asg, w_own, w_expr, w_if, w_for, w_brk, w_cnt, w_pass, w_raise, w_app2, ownL_o, w_par, w_unp, w_lcAf, w_lcAt, wp_of_some, wp_of_ite, wp_ok, wp_bad, wp_exc, wp_nx, wp_rt, wp_bk, wp_ct, wp_xc, wp_no, getV, borV, Bo.f, BoN.f, Co.f, Bi.f, Tg.t, addD_i, addD_s, addD_t, catD_l, subD_i, mulD_i, mulD_s, mulD_t, repD_l, fdivD_i, modD_i, eqD_s, eqD_i, eqD_b, neD_s, neD_i, neD_b, ltD_i, gtD_i, leD_i, geD_i, isND_n, notND_n, nonD_n, nonD_s, nonD_i, nonD_b, nonD_l, nonD_t, inD_s, ninD_s, ixD_l, ixD_t, lenD_l, lenD_t, lenD_s, max2_i, min2_i, listL_l, listL_t, tupL_l, tupL_t, int1_i, items_l, items_t, items_s, rng1_i, rng2_i, slD_s, slD_t, slN_l, isi_ss, isi_si, isi_sb, isi_sl, isi_st, isi_sn, isi_is, isi_ii, isi_ib, isi_il, isi_it, isi_in, isi_bs, isi_bi, isi_bb, isi_bl, isi_bt, isi_bn, isi_ls, isi_li, isi_lb, isi_ll, isi_lt, isi_ln, isi_ts, isi_ti, isi_tb, isi_tl, isi_tt, isi_tn, tl_s, tl_i, tl_b, tl_l, tl_t, tl_n, List.getElem?_cons_zero, List.getElem?_cons_succ, List.set_cons_zero, List.set_cons_succ, List.length_cons, List.length_nil, Nat.reduceAdd, Nat.reduceLT, Nat.reduceLeDiff, Nat.zero_lt_succ, D.bl.injEq, D.int.injEq, D.str.injEq, exists_eq_left', exists_eq_left, true_and, and_true, forall_const, Bool.true_and, Bool.and_true, Bool.false_eq_true, Bool.not_true, Bool.not_false, if_true, true_implies, false_implies, eq_self, Bool.true_eq_false, reduceCtorEq, decide_true, decide_eq_true_eq, decide_eq_false_iff_not, Decidable.not_not, beq_self_eq_true, not_true_eq_false, not_false_eq_true, Bool.not_eq_true', Bool.not_eq_false', Option.some.injEq, wipeD, List.map_cons, List.map_nil, List.foldr_cons, List.foldr_nil, tgName, tgTup, tgNames, Option.bind_some, and_self])
      refine ⟨_, v_simple (by omega) (by omega), ?_⟩
      rw [simple_all hsi]
      (try simp only [w_var, w_bor, w_kint, w_kstr, w_kbl, w_knon, w_gint, w_gstr, w_bin, w_binN, w_cmp, w_ix, w_chn, chnW_b, w_neg, w_notv, w_one, w_andv, w_orv, w_ite, w_tup, w_lst, w_cal, w_listN, w_tupC, w_intC, w_isi, w_isi2', w_sl, w_slN, w_pn, w_ps, w_nil, w_cons, w_tval, w_tcmp, w_tchn, w_tnot, w_tw, w_tone, w_tyes, w_tand, w_tor, w_seq, w_r1, w_r2, w_r3, w_fld, w_prop, w_enu, w_lrg, w_ltx, w_srt, Fl.f, w_snil, w_ret, w_retN, w_asg, w_own, w_expr, w_if, w_for, w_brk, w_cnt, w_pass, w_raise, w_app2, ownL_o, w_par, w_unp, w_lcAf, w_lcAt, wp_of_some, wp_of_ite, wp_ok, wp_bad, wp_exc, wp_nx, wp_rt, wp_bk, wp_ct, wp_xc, wp_no, getV, borV, Bo.f, BoN.f, Co.f, Bi.f, Tg.t, addD_i, addD_s, addD_t, catD_l, subD_i, mulD_i, mulD_s, mulD_t, repD_l, fdivD_i, modD_i, eqD_s, eqD_i, eqD_b, neD_s, neD_i, neD_b, ltD_i, gtD_i, leD_i, geD_i, isND_n, notND_n, nonD_n, nonD_s, nonD_i, nonD_b, nonD_l, nonD_t, inD_s, ninD_s, ixD_l, ixD_t, lenD_l, lenD_t, lenD_s, max2_i, min2_i, listL_l, listL_t, tupL_l, tupL_t, int1_i, items_l, items_t, items_s, rng1_i, rng2_i, slD_s, slD_t, slN_l, isi_ss, isi_si, isi_sb, isi_sl, isi_st, isi_sn, isi_is, isi_ii, isi_ib, isi_il, isi_it, isi_in, isi_bs, isi_bi, isi_bb, isi_bl, isi_bt, isi_bn, isi_ls, isi_li, isi_lb, isi_ll, isi_lt, isi_ln, isi_ts, isi_ti, isi_tb, isi_tl, isi_tt, isi_tn, tl_s, tl_i, tl_b, tl_l, tl_t, tl_n, List.getElem?_cons_zero, List.getElem?_cons_succ, List.set_cons_zero, List.set_cons_succ, List.length_cons, List.length_nil, Nat.reduceAdd, Nat.reduceLT, Nat.reduceLeDiff, Nat.zero_lt_succ, D.bl.injEq, D.int.injEq, D.str.injEq, exists_eq_left', exists_eq_left, true_and, and_true, forall_const, Bool.true_and, Bool.and_true, Bool.false_eq_true, Bool.not_true, Bool.not_false, if_true, true_implies, false_implies, eq_self, Bool.true_eq_false, reduceCtorEq, decide_true, decide_eq_true_eq, decide_eq_false_iff_not, Decidable.not_not, beq_self_eq_true, not_true_eq_false, not_false_eq_true, Bool.not_eq_true', Bool.not_eq_false', Option.some.injEq, wipeD, List.map_cons, List.map_nil, List.foldr_cons, List.foldr_nil, tgName, tgTup, tgNames, Option.bind_some, and_self])
      refine wp_call rfl ?_
      (try simp only [w_var, w_bor, w_kint, w_kstr, w_kbl, w_knon, w_gint, w_gstr, w_bin, w_binN, w_cmp, w_ix, w_chn, chnW_b, w_neg, w_notv, w_one, w_andv, w_orv, w_ite, w_tup, w_lst, w_cal, w_listN, w_tupC, w_intC, w_isi, w_isi2', w_sl, w_slN, w_pn, w_ps, w_nil, w_cons, w_tval, w_tcmp, w_tchn, w_tnot, w_tw, w_tone, w_tyes, w_tand, w_tor, w_seq, w_r1, w_r2, w_r3, w_fld, w_prop, w_enu, w_lrg, w_ltx, w_srt, Fl.f, w_snil, w_ret, w_retN, w_asg, w_own, w_expr, w_if, w_for, w_brk, w_cnt, w_pass, w_raise, w_app2, ownL_o, w_par, w_unp, w_lcAf, w_lcAt, wp_of_some, wp_of_ite, wp_ok, wp_bad, wp_exc, wp_nx, wp_rt, wp_bk, wp_ct, wp_xc, wp_no, getV, borV, Bo.f, BoN.f, Co.f, Bi.f, Tg.t, addD_i, addD_s, addD_t, catD_l, subD_i, mulD_i, mulD_s, mulD_t, repD_l, fdivD_i, modD_i, eqD_s, eqD_i, eqD_b, neD_s, neD_i, neD_b, ltD_i, gtD_i, leD_i, geD_i, isND_n, notND_n, nonD_n, nonD_s, nonD_i, nonD_b, nonD_l, nonD_t, inD_s, ninD_s, ixD_l, ixD_t, lenD_l, lenD_t, lenD_s, max2_i, min2_i, listL_l, listL_t, tupL_l, tupL_t, int1_i, items_l, items_t, items_s, rng1_i, rng2_i, slD_s, slD_t, slN_l, isi_ss, isi_si, isi_sb, isi_sl, isi_st, isi_sn, isi_is, isi_ii, isi_ib, isi_il, isi_it, isi_in, isi_bs, isi_bi, isi_bb, isi_bl, isi_bt, isi_bn, isi_ls, isi_li, isi_lb, isi_ll, isi_lt, isi_ln, isi_ts, isi_ti, isi_tb, isi_tl, isi_tt, isi_tn, tl_s, tl_i, tl_b, tl_l, tl_t, tl_n, List.getElem?_cons_zero, List.getElem?_cons_succ, List.set_cons_zero, List.set_cons_succ, List.length_cons, List.length_nil, Nat.reduceAdd, Nat.reduceLT, Nat.reduceLeDiff, Nat.zero_lt_succ, D.bl.injEq, D.int.injEq, D.str.injEq, exists_eq_left', exists_eq_left, true_and, and_true, forall_const, Bool.true_and, Bool.and_true, Bool.false_eq_true, Bool.not_true, Bool.not_false, if_true, true_implies, false_implies, eq_self, Bool.true_eq_false, reduceCtorEq, decide_true, decide_eq_true_eq, decide_eq_false_iff_not, Decidable.not_not, beq_self_eq_true, not_true_eq_false, not_false_eq_true, Bool.not_eq_true', Bool.not_eq_false', Option.some.injEq, wipeD, List.map_cons, List.map_nil, List.foldr_cons, List.foldr_nil, tgName, tgTup, tgNames, Option.bind_some, and_self])
      refine ⟨_, ct1, ?_⟩
      (try simp only [w_var, w_bor, w_kint, w_kstr, w_kbl, w_knon, w_gint, w_gstr, w_bin, w_binN, w_cmp, w_ix, w_chn, chnW_b, w_neg, w_notv, w_one, w_andv, w_orv, w_ite, w_tup, w_lst, w_cal, w_listN, w_tupC, w_intC, w_isi, w_isi2', w_sl, w_slN, w_pn, w_ps, w_nil, w_cons, w_tval, w_tcmp, w_tchn, w_tnot, w_tw, w_tone, w_tyes, w_tand, w_tor, w_seq, w_r1, w_r2, w_r3, w_fld, w_prop, w_enu, w_lrg, w_ltx, w_srt, Fl.f, w_snil, w_ret, w_retN, w_asg, w_own, w_expr, w_if, w_for, w_brk, w_cnt, w_pass, w_raise, w_app2, ownL_o, w_par, w_unp, w_lcAf, w_lcAt, wp_of_some, wp_of_ite, wp_ok, wp_bad, wp_exc, wp_nx, wp_rt, wp_bk, wp_ct, wp_xc, wp_no, getV, borV, Bo.f, BoN.f, Co.f, Bi.f, Tg.t, addD_i, addD_s, addD_t, catD_l, subD_i, mulD_i, mulD_s, mulD_t, repD_l, fdivD_i, modD_i, eqD_s, eqD_i, eqD_b, neD_s, neD_i, neD_b, ltD_i, gtD_i, leD_i, geD_i, isND_n, notND_n, nonD_n, nonD_s, nonD_i, nonD_b, nonD_l, nonD_t, inD_s, ninD_s, ixD_l, ixD_t, lenD_l, lenD_t, lenD_s, max2_i, min2_i, listL_l, listL_t, tupL_l, tupL_t, int1_i, items_l, items_t, items_s, rng1_i, rng2_i, slD_s, slD_t, slN_l, isi_ss, isi_si, isi_sb, isi_sl, isi_st, isi_sn, isi_is, isi_ii, isi_ib, isi_il, isi_it, isi_in, isi_bs, isi_bi, isi_bb, isi_bl, isi_bt, isi_bn, isi_ls, isi_li, isi_lb, isi_ll, isi_lt, isi_ln, isi_ts, isi_ti, isi_tb, isi_tl, isi_tt, isi_tn, tl_s, tl_i, tl_b, tl_l, tl_t, tl_n, List.getElem?_cons_zero, List.getElem?_cons_succ, List.set_cons_zero, List.set_cons_succ, List.length_cons, List.length_nil, Nat.reduceAdd, Nat.reduceLT, Nat.reduceLeDiff, Nat.zero_lt_succ, D.bl.injEq, D.int.injEq, D.str.injEq, exists_eq_left', exists_eq_left, true_and, and_true, forall_const, Bool.true_and, Bool.and_true, Bool.false_eq_true, Bool.not_true, Bool.not_false, if_true, true_implies, false_implies, eq_self, Bool.true_eq_false, reduceCtorEq, decide_true, decide_eq_true_eq, decide_eq_false_iff_not, Decidable.not_not, beq_self_eq_true, not_true_eq_false, not_false_eq_true, Bool.not_eq_true', Bool.not_eq_false', Option.some.injEq, wipeD, List.map_cons, List.map_nil, List.foldr_cons, List.foldr_nil, tgName, tgTup, tgNames, Option.bind_some, and_self])
      rw [w_scons]
      (try simp only [w_var, w_bor, w_kint, w_kstr, w_kbl, w_knon, w_gint, w_gstr, w_bin, w_binN, w_cmp, w_ix, w_chn, chnW_b, w_neg, w_notv, w_one, w_andv, w_orv, w_ite, w_tup, w_lst, w_cal, w_listN, w_tupC, w_intC, w_isi, w_isi2', w_sl, w_slN, w_pn, w_ps, w_nil, w_cons, w_tval, w_tcmp, w_tchn, w_tnot, w_tw, w_tone, w_tyes, w_tand, w_tor, w_seq, w_r1, w_r2, w_r3, w_fld, w_prop, w_enu, w_lrg, w_ltx, w_srt, Fl.f, w_snil, w_ret, w_retN, w_asg, w_own, w_expr, w_if, w_for, w_brk, w_cnt, w_pass, w_raise, w_app2, ownL_o, w_par, w_unp, w_lcAf, w_lcAt, wp_of_some, wp_of_ite, wp_ok, wp_bad, wp_exc, wp_nx, wp_rt, wp_bk, wp_ct, wp_xc, wp_no, getV, borV, Bo.f, BoN.f, Co.f, Bi.f, Tg.t, addD_i, addD_s, addD_t, catD_l, subD_i, mulD_i, mulD_s, mulD_t, repD_l, fdivD_i, modD_i, eqD_s, eqD_i, eqD_b, neD_s, neD_i, neD_b, ltD_i, gtD_i, leD_i, geD_i, isND_n, notND_n, nonD_n, nonD_s, nonD_i, nonD_b, nonD_l, nonD_t, inD_s, ninD_s, ixD_l, ixD_t, lenD_l, lenD_t, lenD_s, max2_i, min2_i, listL_l, listL_t, tupL_l, tupL_t, int1_i, items_l, items_t, items_s, rng1_i, rng2_i, slD_s, slD_t, slN_l, isi_ss, isi_si, isi_sb, isi_sl, isi_st, isi_sn, isi_is, isi_ii, isi_ib, isi_il, isi_it, isi_in, isi_bs, isi_bi, isi_bb, isi_bl, isi_bt, isi_bn, isi_ls, isi_li, isi_lb, isi_ll, isi_lt, isi_ln, isi_ts, isi_ti, isi_tb, isi_tl, isi_tt, isi_tn, tl_s, tl_i, tl_b, tl_l, tl_t, tl_n, List.getElem?_cons_zero, List.getElem?_cons_succ, List.set_cons_zero, List.set_cons_succ, List.length_cons, List.length_nil, Nat.reduceAdd, Nat.reduceLT, Nat.reduceLeDiff, Nat.zero_lt_succ, D.bl.injEq, D.int.injEq, D.str.injEq, exists_eq_left', exists_eq_left, true_and, and_true, forall_const, Bool.true_and, Bool.and_true, Bool.false_eq_true, Bool.not_true, Bool.not_false, if_true, true_implies, false_implies, eq_self, Bool.true_eq_false, reduceCtorEq, decide_true, decide_eq_true_eq, decide_eq_false_iff_not, Decidable.not_not, beq_self_eq_true, not_true_eq_false, not_false_eq_true, Bool.not_eq_true', Bool.not_eq_false', Option.some.injEq, wipeD, List.map_cons, List.map_nil, List.foldr_cons, List.foldr_nil, tgName, tgTup, tgNames, Option.bind_some, and_self])
      refine ⟨by (first | omega | with_reducible assumption | (refine LN_le ?_; (try simp only [rot_len, List.length_append, List.length_drop, List.length_take, List.length_map, List.length_cons, List.length_nil, List.length_range, rangeD_len]); omega) | (refine LN_lt ?_; (try simp only [rot_len, List.length_append, List.length_drop, List.length_take, List.length_map, List.length_cons, List.length_nil, List.length_range, rangeD_len]); omega) | (refine big_le ?_ ?_ <;> (try simp only [rot_len, List.length_append, List.length_drop, List.length_take, List.length_map, List.length_cons, List.length_nil, List.length_range, rangeD_len]) <;> omega) | (refine big2 (big_le ?_ ?_) (big_le ?_ ?_) <;> (try simp only [rot_len, List.length_append, List.length_drop, List.length_take, List.length_map, List.length_cons, List.length_nil, List.length_range, rangeD_len]) <;> omega)), ?_⟩
      refine wp_forL (fun items s => ∃ (b : Option DV), s = ⟨[none, some .src, some (.im (.lst (ws.map .str))), some (.im (.lst he)), some (.im (.lst ta)), some (.im (.str w)), none, some (.im (.int x)), some (.im (.int y)), b], sr2⟩ ∧ ∀ i, i ∈ items → ∃ k : Nat, 1 ≤ k ∧ k < n ∧ i = .int (1 + ((k - 1 : Nat) : Int))) _ _ ⟨_, rfl, fun i hi => by
        obtain ⟨k, hk, e⟩ := rangeD_mem hi
        exact ⟨k + 1, by omega, by omega, e⟩⟩ ?_ ?_
      · rintro di r2 s ⟨b, rfl, hit2⟩
        obtain ⟨k, k1, k2, rfl⟩ := hit2 di List.mem_cons_self
        obtain ⟨q, hq⟩ : ∃ q : Int, 1 + ((k - 1 : Nat) : Int) = q := ⟨_, rfl⟩
        have hqk : q = (k : Int) := by omega
        rw [hq]
        have e1 : atI ta q = some (D.lst ((ws.map fun w => w.drop k).map .str)) := atI_at hqk (hta2 k k2)
        have e2 : atI he q = some (D.lst ((ws.map fun w => w.take k).map .str)) := atI_at hqk (hhe2 k k2)
        refine ⟨_, rfl, ?_⟩
        rw [w_scons]
        (try simp only [w_var, w_bor, w_kint, w_kstr, w_kbl, w_knon, w_gint, w_gstr, w_bin, w_binN, w_cmp, w_ix, w_chn, chnW_b, w_neg, w_notv, w_one, w_andv, w_orv, w_ite, w_tup, w_lst, w_cal, w_listN, w_tupC, w_intC, w_isi, w_isi2', w_sl, w_slN, w_pn, w_ps, w_nil, w_cons, w_tval, w_tcmp, w_tchn, w_tnot, w_tw, w_tone, w_tyes, w_tand, w_tor, w_seq, w_r1, w_r2, w_r3, w_fld, w_prop, w_enu, w_lrg, w_ltx, w_srt, Fl.f, w_snil, w_ret, w_retN, w_asg, w_own, w_expr, w_if, w_for, w_brk, w_cnt, w_pass, w_raise, w_app2, ownL_o, w_par, w_unp, w_lcAf, w_lcAt, wp_of_some, wp_of_ite, wp_ok, wp_bad, wp_exc, wp_nx, wp_rt, wp_bk, wp_ct, wp_xc, wp_no, getV, borV, Bo.f, BoN.f, Co.f, Bi.f, Tg.t, addD_i, addD_s, addD_t, catD_l, subD_i, mulD_i, mulD_s, mulD_t, repD_l, fdivD_i, modD_i, eqD_s, eqD_i, eqD_b, neD_s, neD_i, neD_b, ltD_i, gtD_i, leD_i, geD_i, isND_n, notND_n, nonD_n, nonD_s, nonD_i, nonD_b, nonD_l, nonD_t, inD_s, ninD_s, ixD_l, ixD_t, lenD_l, lenD_t, lenD_s, max2_i, min2_i, listL_l, listL_t, tupL_l, tupL_t, int1_i, items_l, items_t, items_s, rng1_i, rng2_i, slD_s, slD_t, slN_l, isi_ss, isi_si, isi_sb, isi_sl, isi_st, isi_sn, isi_is, isi_ii, isi_ib, isi_il, isi_it, isi_in, isi_bs, isi_bi, isi_bb, isi_bl, isi_bt, isi_bn, isi_ls, isi_li, isi_lb, isi_ll, isi_lt, isi_ln, isi_ts, isi_ti, isi_tb, isi_tl, isi_tt, isi_tn, tl_s, tl_i, tl_b, tl_l, tl_t, tl_n, List.getElem?_cons_zero, List.getElem?_cons_succ, List.set_cons_zero, List.set_cons_succ, List.length_cons, List.length_nil, Nat.reduceAdd, Nat.reduceLT, Nat.reduceLeDiff, Nat.zero_lt_succ, D.bl.injEq, D.int.injEq, D.str.injEq, exists_eq_left', exists_eq_left, true_and, and_true, forall_const, Bool.true_and, Bool.and_true, Bool.false_eq_true, Bool.not_true, Bool.not_false, if_true, true_implies, false_implies, eq_self, Bool.true_eq_false, reduceCtorEq, decide_true, decide_eq_true_eq, decide_eq_false_iff_not, Decidable.not_not, beq_self_eq_true, not_true_eq_false, not_false_eq_true, Bool.not_eq_true', Bool.not_eq_false', Option.some.injEq, wipeD, List.map_cons, List.map_nil, List.foldr_cons, List.foldr_nil, tgName, tgTup, tgNames, Option.bind_some, and_self, e1, e2, inD_lw6, cut_to _ (show (0 : Int) ≤ y - q by omega), cut_from _ (show (0 : Int) ≤ y - q by omega)])
        rw [show (y - q).toNat = n - k by omega]
        have fin : ∃ (b : Option DV), (⟨[none, some .src, some (.im (.lst (ws.map .str))), some (.im (.lst he)), some (.im (.lst ta)), some (.im (.str w)), none, some (.im (.int x)), some (.im (.int y)), some (.im (.int q))], sr2⟩ : DS) = ⟨[none, some .src, some (.im (.lst (ws.map .str))), some (.im (.lst he)), some (.im (.lst ta)), some (.im (.str w)), none, some (.im (.int x)), some (.im (.int y)), b], sr2⟩ ∧ ∀ i, i ∈ r2 → ∃ k : Nat, 1 ≤ k ∧ k < n ∧ i = .int (1 + ((k - 1 : Nat) : Int)) := ⟨_, rfl, fun i hi => hit2 i (List.mem_cons_of_mem _ hi)⟩
        exact And.intro (by (first | omega | with_reducible assumption | (refine LN_le ?_; (try simp only [rot_len, List.length_append, List.length_drop, List.length_take, List.length_map, List.length_cons, List.length_nil, List.length_range, rangeD_len]); omega) | (refine LN_lt ?_; (try simp only [rot_len, List.length_append, List.length_drop, List.length_take, List.length_map, List.length_cons, List.length_nil, List.length_range, rangeD_len]); omega) | (refine big_le ?_ ?_ <;> (try simp only [rot_len, List.length_append, List.length_drop, List.length_take, List.length_map, List.length_cons, List.length_nil, List.length_range, rangeD_len]) <;> omega) | (refine big2 (big_le ?_ ?_) (big_le ?_ ?_) <;> (try simp only [rot_len, List.length_append, List.length_drop, List.length_take, List.length_map, List.length_cons, List.length_nil, List.length_range, rangeD_len]) <;> omega))) (And.intro (fun h1 => And.intro (by (first | omega | with_reducible assumption | (refine LN_le ?_; (try simp only [rot_len, List.length_append, List.length_drop, List.length_take, List.length_map, List.length_cons, List.length_nil, List.length_range, rangeD_len]); omega) | (refine LN_lt ?_; (try simp only [rot_len, List.length_append, List.length_drop, List.length_take, List.length_map, List.length_cons, List.length_nil, List.length_range, rangeD_len]); omega) | (refine big_le ?_ ?_ <;> (try simp only [rot_len, List.length_append, List.length_drop, List.length_take, List.length_map, List.length_cons, List.length_nil, List.length_range, rangeD_len]) <;> omega) | (refine big2 (big_le ?_ ?_) (big_le ?_ ?_) <;> (try simp only [rot_len, List.length_append, List.length_drop, List.length_take, List.length_map, List.length_cons, List.length_nil, List.length_range, rangeD_len]) <;> omega))) (And.intro (fun h2 => absurd h2 (fun h2 => hcl hw k1 k2 h1 h2)) (fun _ => fin))) (fun _ => fin))
      · rintro s ⟨b, rfl, _⟩
        (try simp only [w_var, w_bor, w_kint, w_kstr, w_kbl, w_knon, w_gint, w_gstr, w_bin, w_binN, w_cmp, w_ix, w_chn, chnW_b, w_neg, w_notv, w_one, w_andv, w_orv, w_ite, w_tup, w_lst, w_cal, w_listN, w_tupC, w_intC, w_isi, w_isi2', w_sl, w_slN, w_pn, w_ps, w_nil, w_cons, w_tval, w_tcmp, w_tchn, w_tnot, w_tw, w_tone, w_tyes, w_tand, w_tor, w_seq, w_r1, w_r2, w_r3, w_fld, w_prop, w_enu, w_lrg, w_ltx, w_srt, Fl.f, w_snil, w_ret, w_retN, w_asg, w_own, w_expr, w_if, w_for, w_brk, w_cnt, w_pass, w_raise, w_app2, ownL_o, w_par, w_unp, w_lcAf, w_lcAt, wp_of_some, wp_of_ite, wp_ok, wp_bad, wp_exc, wp_nx, wp_rt, wp_bk, wp_ct, wp_xc, wp_no, getV, borV, Bo.f, BoN.f, Co.f, Bi.f, Tg.t, addD_i, addD_s, addD_t, catD_l, subD_i, mulD_i, mulD_s, mulD_t, repD_l, fdivD_i, modD_i, eqD_s, eqD_i, eqD_b, neD_s, neD_i, neD_b, ltD_i, gtD_i, leD_i, geD_i, isND_n, notND_n, nonD_n, nonD_s, nonD_i, nonD_b, nonD_l, nonD_t, inD_s, ninD_s, ixD_l, ixD_t, lenD_l, lenD_t, lenD_s, max2_i, min2_i, listL_l, listL_t, tupL_l, tupL_t, int1_i, items_l, items_t, items_s, rng1_i, rng2_i, slD_s, slD_t, slN_l, isi_ss, isi_si, isi_sb, isi_sl, isi_st, isi_sn, isi_is, isi_ii, isi_ib, isi_il, isi_it, isi_in, isi_bs, isi_bi, isi_bb, isi_bl, isi_bt, isi_bn, isi_ls, isi_li, isi_lb, isi_ll, isi_lt, isi_ln, isi_ts, isi_ti, isi_tb, isi_tl, isi_tt, isi_tn, tl_s, tl_i, tl_b, tl_l, tl_t, tl_n, List.getElem?_cons_zero, List.getElem?_cons_succ, List.set_cons_zero, List.set_cons_succ, List.length_cons, List.length_nil, Nat.reduceAdd, Nat.reduceLT, Nat.reduceLeDiff, Nat.zero_lt_succ, D.bl.injEq, D.int.injEq, D.str.injEq, exists_eq_left', exists_eq_left, true_and, and_true, forall_const, Bool.true_and, Bool.and_true, Bool.false_eq_true, Bool.not_true, Bool.not_false, if_true, true_implies, false_implies, eq_self, Bool.true_eq_false, reduceCtorEq, decide_true, decide_eq_true_eq, decide_eq_false_iff_not, Decidable.not_not, beq_self_eq_true, not_true_eq_false, not_false_eq_true, Bool.not_eq_true', Bool.not_eq_false', Option.some.injEq, wipeD, List.map_cons, List.map_nil, List.foldr_cons, List.foldr_nil, tgName, tgTup, tgNames, Option.bind_some, and_self])
        exact ⟨todo, _, _, rfl, rfl, fun v hv => ht v (List.mem_cons_of_mem _ hv)⟩
  · rintro s ⟨todo, a, b, rfl, hit, ht⟩
    clear hcl
    rw [w_scons]
    (try simp only [w_var, w_bor, w_kint, w_kstr, w_kbl, w_knon, w_gint, w_gstr, w_bin, w_binN, w_cmp, w_ix, w_chn, chnW_b, w_neg, w_notv, w_one, w_andv, w_orv, w_ite, w_tup, w_lst, w_cal, w_listN, w_tupC, w_intC, w_isi, w_isi2', w_sl, w_slN, w_pn, w_ps, w_nil, w_cons, w_tval, w_tcmp, w_tchn, w_tnot, w_tw, w_tone, w_tyes, w_tand, w_tor, w_seq, w_r1, w_r2, w_r3, w_fld, w_prop, w_enu, w_lrg, w_ltx, w_srt, Fl.f, w_snil, w_ret, w_retN, w_asg, w_own, w_expr, w_if, w_for, w_brk, w_cnt, w_pass, w_raise, w_app2, ownL_o, w_par, w_unp, w_lcAf, w_lcAt, wp_of_some, wp_of_ite, wp_ok, wp_bad, wp_exc, wp_nx, wp_rt, wp_bk, wp_ct, wp_xc, wp_no, getV, borV, Bo.f, BoN.f, Co.f, Bi.f, Tg.t, addD_i, addD_s, addD_t, catD_l, subD_i, mulD_i, mulD_s, mulD_t, repD_l, fdivD_i, modD_i, eqD_s, eqD_i, eqD_b, neD_s, neD_i, neD_b, ltD_i, gtD_i, leD_i, geD_i, isND_n, notND_n, nonD_n, nonD_s, nonD_i, nonD_b, nonD_l, nonD_t, inD_s, ninD_s, ixD_l, ixD_t, lenD_l, lenD_t, lenD_s, max2_i, min2_i, listL_l, listL_t, tupL_l, tupL_t, int1_i, items_l, items_t, items_s, rng1_i, rng2_i, slD_s, slD_t, slN_l, isi_ss, isi_si, isi_sb, isi_sl, isi_st, isi_sn, isi_is, isi_ii, isi_ib, isi_il, isi_it, isi_in, isi_bs, isi_bi, isi_bb, isi_bl, isi_bt, isi_bn, isi_ls, isi_li, isi_lb, isi_ll, isi_lt, isi_ln, isi_ts, isi_ti, isi_tb, isi_tl, isi_tt, isi_tn, tl_s, tl_i, tl_b, tl_l, tl_t, tl_n, List.getElem?_cons_zero, List.getElem?_cons_succ, List.set_cons_zero, List.set_cons_succ, List.length_cons, List.length_nil, Nat.reduceAdd, Nat.reduceLT, Nat.reduceLeDiff, Nat.zero_lt_succ, D.bl.injEq, D.int.injEq, D.str.injEq, exists_eq_left', exists_eq_left, true_and, and_true, forall_const, Bool.true_and, Bool.and_true, Bool.false_eq_true, Bool.not_true, Bool.not_false, if_true, true_implies, false_implies, eq_self, Bool.true_eq_false, reduceCtorEq, decide_true, decide_eq_true_eq, decide_eq_false_iff_not, Decidable.not_not, beq_self_eq_true, not_true_eq_false, not_false_eq_true, Bool.not_eq_true', Bool.not_eq_false', Option.some.injEq, wipeD, List.map_cons, List.map_nil, List.foldr_cons, List.foldr_nil, tgName, tgTup, tgNames, Option.bind_some, and_self])
    refine ⟨by decide, ?_⟩
    refine wp_forL (fun items s => ∃ (sr : Src) (a c : Option DV), s = ⟨[none, some .src, some (.im (.lst (ws.map .str))), some (.im (.lst he)), some (.im (.lst ta)), a, c, some (.im (.int x)), some (.im (.int y)), b], sr⟩ ∧ sr.ok) _ _ ⟨sr2, _, _, rfl, ok2⟩ ?_ ?_
    · rintro di r s ⟨sr3, a, c, rfl, ok3⟩
      refine ⟨_, rfl, ?_⟩
      rw [w_scons]
      (try simp only [w_var, w_bor, w_kint, w_kstr, w_kbl, w_knon, w_gint, w_gstr, w_bin, w_binN, w_cmp, w_ix, w_chn, chnW_b, w_neg, w_notv, w_one, w_andv, w_orv, w_ite, w_tup, w_lst, w_cal, w_listN, w_tupC, w_intC, w_isi, w_isi2', w_sl, w_slN, w_pn, w_ps, w_nil, w_cons, w_tval, w_tcmp, w_tchn, w_tnot, w_tw, w_tone, w_tyes, w_tand, w_tor, w_seq, w_r1, w_r2, w_r3, w_fld, w_prop, w_enu, w_lrg, w_ltx, w_srt, Fl.f, w_snil, w_ret, w_retN, w_asg, w_own, w_expr, w_if, w_for, w_brk, w_cnt, w_pass, w_raise, w_app2, ownL_o, w_par, w_unp, w_lcAf, w_lcAt, wp_of_some, wp_of_ite, wp_ok, wp_bad, wp_exc, wp_nx, wp_rt, wp_bk, wp_ct, wp_xc, wp_no, getV, borV, Bo.f, BoN.f, Co.f, Bi.f, Tg.t, addD_i, addD_s, addD_t, catD_l, subD_i, mulD_i, mulD_s, mulD_t, repD_l, fdivD_i, modD_i, eqD_s, eqD_i, eqD_b, neD_s, neD_i, neD_b, ltD_i, gtD_i, leD_i, geD_i, isND_n, notND_n, nonD_n, nonD_s, nonD_i, nonD_b, nonD_l, nonD_t, inD_s, ninD_s, ixD_l, ixD_t, lenD_l, lenD_t, lenD_s, max2_i, min2_i, listL_l, listL_t, tupL_l, tupL_t, int1_i, items_l, items_t, items_s, rng1_i, rng2_i, slD_s, slD_t, slN_l, isi_ss, isi_si, isi_sb, isi_sl, isi_st, isi_sn, isi_is, isi_ii, isi_ib, isi_il, isi_it, isi_in, isi_bs, isi_bi, isi_bb, isi_bl, isi_bt, isi_bn, isi_ls, isi_li, isi_lb, isi_ll, isi_lt, isi_ln, isi_ts, isi_ti, isi_tb, isi_tl, isi_tt, isi_tn, tl_s, tl_i, tl_b, tl_l, tl_t, tl_n, List.getElem?_cons_zero, List.getElem?_cons_succ, List.set_cons_zero, List.set_cons_succ, List.length_cons, List.length_nil, Nat.reduceAdd, Nat.reduceLT, Nat.reduceLeDiff, Nat.zero_lt_succ, D.bl.injEq, D.int.injEq, D.str.injEq, exists_eq_left', exists_eq_left, true_and, and_true, forall_const, Bool.true_and, Bool.and_true, Bool.false_eq_true, Bool.not_true, Bool.not_false, if_true, true_implies, false_implies, eq_self, Bool.true_eq_false, reduceCtorEq, decide_true, decide_eq_true_eq, decide_eq_false_iff_not, Decidable.not_not, beq_self_eq_true, not_true_eq_false, not_false_eq_true, Bool.not_eq_true', Bool.not_eq_false', Option.some.injEq, wipeD, List.map_cons, List.map_nil, List.foldr_cons, List.foldr_nil, tgName, tgTup, tgNames, Option.bind_some, and_self])
      refine wp_calls rfl rfl ?_
      (try simp only [w_var, w_bor, w_kint, w_kstr, w_kbl, w_knon, w_gint, w_gstr, w_bin, w_binN, w_cmp, w_ix, w_chn, chnW_b, w_neg, w_notv, w_one, w_andv, w_orv, w_ite, w_tup, w_lst, w_cal, w_listN, w_tupC, w_intC, w_isi, w_isi2', w_sl, w_slN, w_pn, w_ps, w_nil, w_cons, w_tval, w_tcmp, w_tchn, w_tnot, w_tw, w_tone, w_tyes, w_tand, w_tor, w_seq, w_r1, w_r2, w_r3, w_fld, w_prop, w_enu, w_lrg, w_ltx, w_srt, Fl.f, w_snil, w_ret, w_retN, w_asg, w_own, w_expr, w_if, w_for, w_brk, w_cnt, w_pass, w_raise, w_app2, ownL_o, w_par, w_unp, w_lcAf, w_lcAt, wp_of_some, wp_of_ite, wp_ok, wp_bad, wp_exc, wp_nx, wp_rt, wp_bk, wp_ct, wp_xc, wp_no, getV, borV, Bo.f, BoN.f, Co.f, Bi.f, Tg.t, addD_i, addD_s, addD_t, catD_l, subD_i, mulD_i, mulD_s, mulD_t, repD_l, fdivD_i, modD_i, eqD_s, eqD_i, eqD_b, neD_s, neD_i, neD_b, ltD_i, gtD_i, leD_i, geD_i, isND_n, notND_n, nonD_n, nonD_s, nonD_i, nonD_b, nonD_l, nonD_t, inD_s, ninD_s, ixD_l, ixD_t, lenD_l, lenD_t, lenD_s, max2_i, min2_i, listL_l, listL_t, tupL_l, tupL_t, int1_i, items_l, items_t, items_s, rng1_i, rng2_i, slD_s, slD_t, slN_l, isi_ss, isi_si, isi_sb, isi_sl, isi_st, isi_sn, isi_is, isi_ii, isi_ib, isi_il, isi_it, isi_in, isi_bs, isi_bi, isi_bb, isi_bl, isi_bt, isi_bn, isi_ls, isi_li, isi_lb, isi_ll, isi_lt, isi_ln, isi_ts, isi_ti, isi_tb, isi_tl, isi_tt, isi_tn, tl_s, tl_i, tl_b, tl_l, tl_t, tl_n, List.getElem?_cons_zero, List.getElem?_cons_succ, List.set_cons_zero, List.set_cons_succ, List.length_cons, List.length_nil, Nat.reduceAdd, Nat.reduceLT, Nat.reduceLeDiff, Nat.zero_lt_succ, D.bl.injEq, D.int.injEq, D.str.injEq, exists_eq_left', exists_eq_left, true_and, and_true, forall_const, Bool.true_and, Bool.and_true, Bool.false_eq_true, Bool.not_true, Bool.not_false, if_true, true_implies, false_implies, eq_self, Bool.true_eq_false, reduceCtorEq, decide_true, decide_eq_true_eq, decide_eq_false_iff_not, Decidable.not_not, beq_self_eq_true, not_true_eq_false, not_false_eq_true, Bool.not_eq_true', Bool.not_eq_false', Option.some.injEq, wipeD, List.map_cons, List.map_nil, List.foldr_cons, List.foldr_nil, tgName, tgTup, tgNames, Option.bind_some, and_self])
      refine (v_text ok3 (by omega) (by omega) (by omega) (by omega)).imp fun dt sr4 ⟨ok4, w, e, w1, w2⟩ => ?_
      subst e
      have w1 : w.length = n := by omega
      have w2 : isL l w := by rw [show l = x.toNat by omega]; exact w2
      (try simp only [w_var, w_bor, w_kint, w_kstr, w_kbl, w_knon, w_gint, w_gstr, w_bin, w_binN, w_cmp, w_ix, w_chn, chnW_b, w_neg, w_notv, w_one, w_andv, w_orv, w_ite, w_tup, w_lst, w_cal, w_listN, w_tupC, w_intC, w_isi, w_isi2', w_sl, w_slN, w_pn, w_ps, w_nil, w_cons, w_tval, w_tcmp, w_tchn, w_tnot, w_tw, w_tone, w_tyes, w_tand, w_tor, w_seq, w_r1, w_r2, w_r3, w_fld, w_prop, w_enu, w_lrg, w_ltx, w_srt, Fl.f, w_snil, w_ret, w_retN, w_asg, w_own, w_expr, w_if, w_for, w_brk, w_cnt, w_pass, w_raise, w_app2, ownL_o, w_par, w_unp, w_lcAf, w_lcAt, wp_of_some, wp_of_ite, wp_ok, wp_bad, wp_exc, wp_nx, wp_rt, wp_bk, wp_ct, wp_xc, wp_no, getV, borV, Bo.f, BoN.f, Co.f, Bi.f, Tg.t, addD_i, addD_s, addD_t, catD_l, subD_i, mulD_i, mulD_s, mulD_t, repD_l, fdivD_i, modD_i, eqD_s, eqD_i, eqD_b, neD_s, neD_i, neD_b, ltD_i, gtD_i, leD_i, geD_i, isND_n, notND_n, nonD_n, nonD_s, nonD_i, nonD_b, nonD_l, nonD_t, inD_s, ninD_s, ixD_l, ixD_t, lenD_l, lenD_t, lenD_s, max2_i, min2_i, listL_l, listL_t, tupL_l, tupL_t, int1_i, items_l, items_t, items_s, rng1_i, rng2_i, slD_s, slD_t, slN_l, isi_ss, isi_si, isi_sb, isi_sl, isi_st, isi_sn, isi_is, isi_ii, isi_ib, isi_il, isi_it, isi_in, isi_bs, isi_bi, isi_bb, isi_bl, isi_bt, isi_bn, isi_ls, isi_li, isi_lb, isi_ll, isi_lt, isi_ln, isi_ts, isi_ti, isi_tb, isi_tl, isi_tt, isi_tn, tl_s, tl_i, tl_b, tl_l, tl_t, tl_n, List.getElem?_cons_zero, List.getElem?_cons_succ, List.set_cons_zero, List.set_cons_succ, List.length_cons, List.length_nil, Nat.reduceAdd, Nat.reduceLT, Nat.reduceLeDiff, Nat.zero_lt_succ, D.bl.injEq, D.int.injEq, D.str.injEq, exists_eq_left', exists_eq_left, true_and, and_true, forall_const, Bool.true_and, Bool.and_true, Bool.false_eq_true, Bool.not_true, Bool.not_false, if_true, true_implies, false_implies, eq_self, Bool.true_eq_false, reduceCtorEq, decide_true, decide_eq_true_eq, decide_eq_false_iff_not, Decidable.not_not, beq_self_eq_true, not_true_eq_false, not_false_eq_true, Bool.not_eq_true', Bool.not_eq_false', Option.some.injEq, wipeD, List.map_cons, List.map_nil, List.foldr_cons, List.foldr_nil, tgName, tgTup, tgNames, Option.bind_some, and_self])
      rw [w_scons]
      (try simp only [w_var, w_bor, w_kint, w_kstr, w_kbl, w_knon, w_gint, w_gstr, w_bin, w_binN, w_cmp, w_ix, w_chn, chnW_b, w_neg, w_notv, w_one, w_andv, w_orv, w_ite, w_tup, w_lst, w_cal, w_listN, w_tupC, w_intC, w_isi, w_isi2', w_sl, w_slN, w_pn, w_ps, w_nil, w_cons, w_tval, w_tcmp, w_tchn, w_tnot, w_tw, w_tone, w_tyes, w_tand, w_tor, w_seq, w_r1, w_r2, w_r3, w_fld, w_prop, w_enu, w_lrg, w_ltx, w_srt, Fl.f, w_snil, w_ret, w_retN, w_asg, w_own, w_expr, w_if, w_for, w_brk, w_cnt, w_pass, w_raise, w_app2, ownL_o, w_par, w_unp, w_lcAf, w_lcAt, wp_of_some, wp_of_ite, wp_ok, wp_bad, wp_exc, wp_nx, wp_rt, wp_bk, wp_ct, wp_xc, wp_no, getV, borV, Bo.f, BoN.f, Co.f, Bi.f, Tg.t, addD_i, addD_s, addD_t, catD_l, subD_i, mulD_i, mulD_s, mulD_t, repD_l, fdivD_i, modD_i, eqD_s, eqD_i, eqD_b, neD_s, neD_i, neD_b, ltD_i, gtD_i, leD_i, geD_i, isND_n, notND_n, nonD_n, nonD_s, nonD_i, nonD_b, nonD_l, nonD_t, inD_s, ninD_s, ixD_l, ixD_t, lenD_l, lenD_t, lenD_s, max2_i, min2_i, listL_l, listL_t, tupL_l, tupL_t, int1_i, items_l, items_t, items_s, rng1_i, rng2_i, slD_s, slD_t, slN_l, isi_ss, isi_si, isi_sb, isi_sl, isi_st, isi_sn, isi_is, isi_ii, isi_ib, isi_il, isi_it, isi_in, isi_bs, isi_bi, isi_bb, isi_bl, isi_bt, isi_bn, isi_ls, isi_li, isi_lb, isi_ll, isi_lt, isi_ln, isi_ts, isi_ti, isi_tb, isi_tl, isi_tt, isi_tn, tl_s, tl_i, tl_b, tl_l, tl_t, tl_n, List.getElem?_cons_zero, List.getElem?_cons_succ, List.set_cons_zero, List.set_cons_succ, List.length_cons, List.length_nil, Nat.reduceAdd, Nat.reduceLT, Nat.reduceLeDiff, Nat.zero_lt_succ, D.bl.injEq, D.int.injEq, D.str.injEq, exists_eq_left', exists_eq_left, true_and, and_true, forall_const, Bool.true_and, Bool.and_true, Bool.false_eq_true, Bool.not_true, Bool.not_false, if_true, true_implies, false_implies, eq_self, Bool.true_eq_false, reduceCtorEq, decide_true, decide_eq_true_eq, decide_eq_false_iff_not, Decidable.not_not, beq_self_eq_true, not_true_eq_false, not_false_eq_true, Bool.not_eq_true', Bool.not_eq_false', Option.some.injEq, wipeD, List.map_cons, List.map_nil, List.foldr_cons, List.foldr_nil, tgName, tgTup, tgNames, Option.bind_some, and_self])
      refine wp_call rfl ?_
      (try simp only [w_var, w_bor, w_kint, w_kstr, w_kbl, w_knon, w_gint, w_gstr, w_bin, w_binN, w_cmp, w_ix, w_chn, chnW_b, w_neg, w_notv, w_one, w_andv, w_orv, w_ite, w_tup, w_lst, w_cal, w_listN, w_tupC, w_intC, w_isi, w_isi2', w_sl, w_slN, w_pn, w_ps, w_nil, w_cons, w_tval, w_tcmp, w_tchn, w_tnot, w_tw, w_tone, w_tyes, w_tand, w_tor, w_seq, w_r1, w_r2, w_r3, w_fld, w_prop, w_enu, w_lrg, w_ltx, w_srt, Fl.f, w_snil, w_ret, w_retN, w_asg, w_own, w_expr, w_if, w_for, w_brk, w_cnt, w_pass, w_raise, w_app2, ownL_o, w_par, w_unp, w_lcAf, w_lcAt, wp_of_some, wp_of_ite, wp_ok, wp_bad, wp_exc, wp_nx, wp_rt, wp_bk, wp_ct, wp_xc, wp_no, getV, borV, Bo.f, BoN.f, Co.f, Bi.f, Tg.t, addD_i, addD_s, addD_t, catD_l, subD_i, mulD_i, mulD_s, mulD_t, repD_l, fdivD_i, modD_i, eqD_s, eqD_i, eqD_b, neD_s, neD_i, neD_b, ltD_i, gtD_i, leD_i, geD_i, isND_n, notND_n, nonD_n, nonD_s, nonD_i, nonD_b, nonD_l, nonD_t, inD_s, ninD_s, ixD_l, ixD_t, lenD_l, lenD_t, lenD_s, max2_i, min2_i, listL_l, listL_t, tupL_l, tupL_t, int1_i, items_l, items_t, items_s, rng1_i, rng2_i, slD_s, slD_t, slN_l, isi_ss, isi_si, isi_sb, isi_sl, isi_st, isi_sn, isi_is, isi_ii, isi_ib, isi_il, isi_it, isi_in, isi_bs, isi_bi, isi_bb, isi_bl, isi_bt, isi_bn, isi_ls, isi_li, isi_lb, isi_ll, isi_lt, isi_ln, isi_ts, isi_ti, isi_tb, isi_tl, isi_tt, isi_tn, tl_s, tl_i, tl_b, tl_l, tl_t, tl_n, List.getElem?_cons_zero, List.getElem?_cons_succ, List.set_cons_zero, List.set_cons_succ, List.length_cons, List.length_nil, Nat.reduceAdd, Nat.reduceLT, Nat.reduceLeDiff, Nat.zero_lt_succ, D.bl.injEq, D.int.injEq, D.str.injEq, exists_eq_left', exists_eq_left, true_and, and_true, forall_const, Bool.true_and, Bool.and_true, Bool.false_eq_true, Bool.not_true, Bool.not_false, if_true, true_implies, false_implies, eq_self, Bool.true_eq_false, reduceCtorEq, decide_true, decide_eq_true_eq, decide_eq_false_iff_not, Decidable.not_not, beq_self_eq_true, not_true_eq_false, not_false_eq_true, Bool.not_eq_true', Bool.not_eq_false', Option.some.injEq, wipeD, List.map_cons, List.map_nil, List.foldr_cons, List.foldr_nil, tgName, tgTup, tgNames, Option.bind_some, and_self])
      refine ⟨_, v_simple (by omega) (by omega), ?_⟩
      (try simp only [w_var, w_bor, w_kint, w_kstr, w_kbl, w_knon, w_gint, w_gstr, w_bin, w_binN, w_cmp, w_ix, w_chn, chnW_b, w_neg, w_notv, w_one, w_andv, w_orv, w_ite, w_tup, w_lst, w_cal, w_listN, w_tupC, w_intC, w_isi, w_isi2', w_sl, w_slN, w_pn, w_ps, w_nil, w_cons, w_tval, w_tcmp, w_tchn, w_tnot, w_tw, w_tone, w_tyes, w_tand, w_tor, w_seq, w_r1, w_r2, w_r3, w_fld, w_prop, w_enu, w_lrg, w_ltx, w_srt, Fl.f, w_snil, w_ret, w_retN, w_asg, w_own, w_expr, w_if, w_for, w_brk, w_cnt, w_pass, w_raise, w_app2, ownL_o, w_par, w_unp, w_lcAf, w_lcAt, wp_of_some, wp_of_ite, wp_ok, wp_bad, wp_exc, wp_nx, wp_rt, wp_bk, wp_ct, wp_xc, wp_no, getV, borV, Bo.f, BoN.f, Co.f, Bi.f, Tg.t, addD_i, addD_s, addD_t, catD_l, subD_i, mulD_i, mulD_s, mulD_t, repD_l, fdivD_i, modD_i, eqD_s, eqD_i, eqD_b, neD_s, neD_i, neD_b, ltD_i, gtD_i, leD_i, geD_i, isND_n, notND_n, nonD_n, nonD_s, nonD_i, nonD_b, nonD_l, nonD_t, inD_s, ninD_s, ixD_l, ixD_t, lenD_l, lenD_t, lenD_s, max2_i, min2_i, listL_l, listL_t, tupL_l, tupL_t, int1_i, items_l, items_t, items_s, rng1_i, rng2_i, slD_s, slD_t, slN_l, isi_ss, isi_si, isi_sb, isi_sl, isi_st, isi_sn, isi_is, isi_ii, isi_ib, isi_il, isi_it, isi_in, isi_bs, isi_bi, isi_bb, isi_bl, isi_bt, isi_bn, isi_ls, isi_li, isi_lb, isi_ll, isi_lt, isi_ln, isi_ts, isi_ti, isi_tb, isi_tl, isi_tt, isi_tn, tl_s, tl_i, tl_b, tl_l, tl_t, tl_n, List.getElem?_cons_zero, List.getElem?_cons_succ, List.set_cons_zero, List.set_cons_succ, List.length_cons, List.length_nil, Nat.reduceAdd, Nat.reduceLT, Nat.reduceLeDiff, Nat.zero_lt_succ, D.bl.injEq, D.int.injEq, D.str.injEq, exists_eq_left', exists_eq_left, true_and, and_true, forall_const, Bool.true_and, Bool.and_true, Bool.false_eq_true, Bool.not_true, Bool.not_false, if_true, true_implies, false_implies, eq_self, Bool.true_eq_false, reduceCtorEq, decide_true, decide_eq_true_eq, decide_eq_false_iff_not, Decidable.not_not, beq_self_eq_true, not_true_eq_false, not_false_eq_true, Bool.not_eq_true', Bool.not_eq_false', Option.some.injEq, wipeD, List.map_cons, List.map_nil, List.foldr_cons, List.foldr_nil, tgName, tgTup, tgNames, Option.bind_some, and_self])
      refine And.intro (fun hsm => ?_) (fun _ => ⟨sr4, _, _, rfl, ok4⟩)
      have hsi := simple_of hsm
      have hL4 : isL 4 w := isL_up w2 t7
      have ho : oddW w := by unfold oddW; omega
      obtain ⟨z1, a1, _, ha1, sg1, _, ct1⟩ := v_ring hL4 (by omega) (by omega) ho hsi
      have hin : rot w a1 ∈ ws := (hmem _).mpr ⟨⟨by rw [rot_len]; exact w1, isL_rot w2⟩, sg1⟩
      have hiff : (w ∈ ws) ↔ rot w a1 = w := by
        constructor
        · intro h
          rcases sgl_turn ((hmem w).mp h).2 sg1 ha1 with q | q
          · rw [q, rot_zero]
          · exact q
        · intro h; rw [h] at hin; exact hin
      rw [w_scons]
      (try simp only [w_var, w_bor, w_kint, w_kstr, w_kbl, w_knon, w_gint, w_gstr, w_bin, w_binN, w_cmp, w_ix, w_chn, chnW_b, w_neg, w_notv, w_one, w_andv, w_orv, w_ite, w_tup, w_lst, w_cal, w_listN, w_tupC, w_intC, w_isi, w_isi2', w_sl, w_slN, w_pn, w_ps, w_nil, w_cons, w_tval, w_tcmp, w_tchn, w_tnot, w_tw, w_tone, w_tyes, w_tand, w_tor, w_seq, w_r1, w_r2, w_r3, w_fld, w_prop, w_enu, w_lrg, w_ltx, w_srt, Fl.f, w_snil, w_ret, w_retN, w_asg, w_own, w_expr, w_if, w_for, w_brk, w_cnt, w_pass, w_raise, w_app2, ownL_o, w_par, w_unp, w_lcAf, w_lcAt, wp_of_some, wp_of_ite, wp_ok, wp_bad, wp_exc, wp_nx, wp_rt, wp_bk, wp_ct, wp_xc, wp_no, getV, borV, Bo.f, BoN.f, Co.f, Bi.f, Tg.t, addD_i, addD_s, addD_t, catD_l, subD_i, mulD_i, mulD_s, mulD_t, repD_l, fdivD_i, modD_i, eqD_s, eqD_i, eqD_b, neD_s, neD_i, neD_b, ltD_i, gtD_i, leD_i, geD_i, isND_n, notND_n, nonD_n, nonD_s, nonD_i, nonD_b, nonD_l, nonD_t, inD_s, ninD_s, ixD_l, ixD_t, lenD_l, lenD_t, lenD_s, max2_i, min2_i, listL_l, listL_t, tupL_l, tupL_t, int1_i, items_l, items_t, items_s, rng1_i, rng2_i, slD_s, slD_t, slN_l, isi_ss, isi_si, isi_sb, isi_sl, isi_st, isi_sn, isi_is, isi_ii, isi_ib, isi_il, isi_it, isi_in, isi_bs, isi_bi, isi_bb, isi_bl, isi_bt, isi_bn, isi_ls, isi_li, isi_lb, isi_ll, isi_lt, isi_ln, isi_ts, isi_ti, isi_tb, isi_tl, isi_tt, isi_tn, tl_s, tl_i, tl_b, tl_l, tl_t, tl_n, List.getElem?_cons_zero, List.getElem?_cons_succ, List.set_cons_zero, List.set_cons_succ, List.length_cons, List.length_nil, Nat.reduceAdd, Nat.reduceLT, Nat.reduceLeDiff, Nat.zero_lt_succ, D.bl.injEq, D.int.injEq, D.str.injEq, exists_eq_left', exists_eq_left, true_and, and_true, forall_const, Bool.true_and, Bool.and_true, Bool.false_eq_true, Bool.not_true, Bool.not_false, if_true, true_implies, false_implies, eq_self, Bool.true_eq_false, reduceCtorEq, decide_true, decide_eq_true_eq, decide_eq_false_iff_not, Decidable.not_not, beq_self_eq_true, not_true_eq_false, not_false_eq_true, Bool.not_eq_true', Bool.not_eq_false', Option.some.injEq, wipeD, List.map_cons, List.map_nil, List.foldr_cons, List.foldr_nil, tgName, tgTup, tgNames, Option.bind_some, and_self])
      refine wp_call rfl ?_
      (try simp only [w_var, w_bor, w_kint, w_kstr, w_kbl, w_knon, w_gint, w_gstr, w_bin, w_binN, w_cmp, w_ix, w_chn, chnW_b, w_neg, w_notv, w_one, w_andv, w_orv, w_ite, w_tup, w_lst, w_cal, w_listN, w_tupC, w_intC, w_isi, w_isi2', w_sl, w_slN, w_pn, w_ps, w_nil, w_cons, w_tval, w_tcmp, w_tchn, w_tnot, w_tw, w_tone, w_tyes, w_tand, w_tor, w_seq, w_r1, w_r2, w_r3, w_fld, w_prop, w_enu, w_lrg, w_ltx, w_srt, Fl.f, w_snil, w_ret, w_retN, w_asg, w_own, w_expr, w_if, w_for, w_brk, w_cnt, w_pass, w_raise, w_app2, ownL_o, w_par, w_unp, w_lcAf, w_lcAt, wp_of_some, wp_of_ite, wp_ok, wp_bad, wp_exc, wp_nx, wp_rt, wp_bk, wp_ct, wp_xc, wp_no, getV, borV, Bo.f, BoN.f, Co.f, Bi.f, Tg.t, addD_i, addD_s, addD_t, catD_l, subD_i, mulD_i, mulD_s, mulD_t, repD_l, fdivD_i, modD_i, eqD_s, eqD_i, eqD_b, neD_s, neD_i, neD_b, ltD_i, gtD_i, leD_i, geD_i, isND_n, notND_n, nonD_n, nonD_s, nonD_i, nonD_b, nonD_l, nonD_t, inD_s, ninD_s, ixD_l, ixD_t, lenD_l, lenD_t, lenD_s, max2_i, min2_i, listL_l, listL_t, tupL_l, tupL_t, int1_i, items_l, items_t, items_s, rng1_i, rng2_i, slD_s, slD_t, slN_l, isi_ss, isi_si, isi_sb, isi_sl, isi_st, isi_sn, isi_is, isi_ii, isi_ib, isi_il, isi_it, isi_in, isi_bs, isi_bi, isi_bb, isi_bl, isi_bt, isi_bn, isi_ls, isi_li, isi_lb, isi_ll, isi_lt, isi_ln, isi_ts, isi_ti, isi_tb, isi_tl, isi_tt, isi_tn, tl_s, tl_i, tl_b, tl_l, tl_t, tl_n, List.getElem?_cons_zero, List.getElem?_cons_succ, List.set_cons_zero, List.set_cons_succ, List.length_cons, List.length_nil, Nat.reduceAdd, Nat.reduceLT, Nat.reduceLeDiff, Nat.zero_lt_succ, D.bl.injEq, D.int.injEq, D.str.injEq, exists_eq_left', exists_eq_left, true_and, and_true, forall_const, Bool.true_and, Bool.and_true, Bool.false_eq_true, Bool.not_true, Bool.not_false, if_true, true_implies, false_implies, eq_self, Bool.true_eq_false, reduceCtorEq, decide_true, decide_eq_true_eq, decide_eq_false_iff_not, Decidable.not_not, beq_self_eq_true, not_true_eq_false, not_false_eq_true, Bool.not_eq_true', Bool.not_eq_false', Option.some.injEq, wipeD, List.map_cons, List.map_nil, List.foldr_cons, List.foldr_nil, tgName, tgTup, tgNames, Option.bind_some, and_self])
      refine ⟨_, ct1, ?_⟩
      (try simp only [w_var, w_bor, w_kint, w_kstr, w_kbl, w_knon, w_gint, w_gstr, w_bin, w_binN, w_cmp, w_ix, w_chn, chnW_b, w_neg, w_notv, w_one, w_andv, w_orv, w_ite, w_tup, w_lst, w_cal, w_listN, w_tupC, w_intC, w_isi, w_isi2', w_sl, w_slN, w_pn, w_ps, w_nil, w_cons, w_tval, w_tcmp, w_tchn, w_tnot, w_tw, w_tone, w_tyes, w_tand, w_tor, w_seq, w_r1, w_r2, w_r3, w_fld, w_prop, w_enu, w_lrg, w_ltx, w_srt, Fl.f, w_snil, w_ret, w_retN, w_asg, w_own, w_expr, w_if, w_for, w_brk, w_cnt, w_pass, w_raise, w_app2, ownL_o, w_par, w_unp, w_lcAf, w_lcAt, wp_of_some, wp_of_ite, wp_ok, wp_bad, wp_exc, wp_nx, wp_rt, wp_bk, wp_ct, wp_xc, wp_no, getV, borV, Bo.f, BoN.f, Co.f, Bi.f, Tg.t, addD_i, addD_s, addD_t, catD_l, subD_i, mulD_i, mulD_s, mulD_t, repD_l, fdivD_i, modD_i, eqD_s, eqD_i, eqD_b, neD_s, neD_i, neD_b, ltD_i, gtD_i, leD_i, geD_i, isND_n, notND_n, nonD_n, nonD_s, nonD_i, nonD_b, nonD_l, nonD_t, inD_s, ninD_s, ixD_l, ixD_t, lenD_l, lenD_t, lenD_s, max2_i, min2_i, listL_l, listL_t, tupL_l, tupL_t, int1_i, items_l, items_t, items_s, rng1_i, rng2_i, slD_s, slD_t, slN_l, isi_ss, isi_si, isi_sb, isi_sl, isi_st, isi_sn, isi_is, isi_ii, isi_ib, isi_il, isi_it, isi_in, isi_bs, isi_bi, isi_bb, isi_bl, isi_bt, isi_bn, isi_ls, isi_li, isi_lb, isi_ll, isi_lt, isi_ln, isi_ts, isi_ti, isi_tb, isi_tl, isi_tt, isi_tn, tl_s, tl_i, tl_b, tl_l, tl_t, tl_n, List.getElem?_cons_zero, List.getElem?_cons_succ, List.set_cons_zero, List.set_cons_succ, List.length_cons, List.length_nil, Nat.reduceAdd, Nat.reduceLT, Nat.reduceLeDiff, Nat.zero_lt_succ, D.bl.injEq, D.int.injEq, D.str.injEq, exists_eq_left', exists_eq_left, true_and, and_true, forall_const, Bool.true_and, Bool.and_true, Bool.false_eq_true, Bool.not_true, Bool.not_false, if_true, true_implies, false_implies, eq_self, Bool.true_eq_false, reduceCtorEq, decide_true, decide_eq_true_eq, decide_eq_false_iff_not, Decidable.not_not, beq_self_eq_true, not_true_eq_false, not_false_eq_true, Bool.not_eq_true', Bool.not_eq_false', Option.some.injEq, wipeD, List.map_cons, List.map_nil, List.foldr_cons, List.foldr_nil, tgName, tgTup, tgNames, Option.bind_some, and_self, ninD_lw5, inD_lw6])
      refine And.intro (fun _ => ?_) (fun h => absurd hin h)
      refine wp_call rfl ?_
      (try simp only [w_var, w_bor, w_kint, w_kstr, w_kbl, w_knon, w_gint, w_gstr, w_bin, w_binN, w_cmp, w_ix, w_chn, chnW_b, w_neg, w_notv, w_one, w_andv, w_orv, w_ite, w_tup, w_lst, w_cal, w_listN, w_tupC, w_intC, w_isi, w_isi2', w_sl, w_slN, w_pn, w_ps, w_nil, w_cons, w_tval, w_tcmp, w_tchn, w_tnot, w_tw, w_tone, w_tyes, w_tand, w_tor, w_seq, w_r1, w_r2, w_r3, w_fld, w_prop, w_enu, w_lrg, w_ltx, w_srt, Fl.f, w_snil, w_ret, w_retN, w_asg, w_own, w_expr, w_if, w_for, w_brk, w_cnt, w_pass, w_raise, w_app2, ownL_o, w_par, w_unp, w_lcAf, w_lcAt, wp_of_some, wp_of_ite, wp_ok, wp_bad, wp_exc, wp_nx, wp_rt, wp_bk, wp_ct, wp_xc, wp_no, getV, borV, Bo.f, BoN.f, Co.f, Bi.f, Tg.t, addD_i, addD_s, addD_t, catD_l, subD_i, mulD_i, mulD_s, mulD_t, repD_l, fdivD_i, modD_i, eqD_s, eqD_i, eqD_b, neD_s, neD_i, neD_b, ltD_i, gtD_i, leD_i, geD_i, isND_n, notND_n, nonD_n, nonD_s, nonD_i, nonD_b, nonD_l, nonD_t, inD_s, ninD_s, ixD_l, ixD_t, lenD_l, lenD_t, lenD_s, max2_i, min2_i, listL_l, listL_t, tupL_l, tupL_t, int1_i, items_l, items_t, items_s, rng1_i, rng2_i, slD_s, slD_t, slN_l, isi_ss, isi_si, isi_sb, isi_sl, isi_st, isi_sn, isi_is, isi_ii, isi_ib, isi_il, isi_it, isi_in, isi_bs, isi_bi, isi_bb, isi_bl, isi_bt, isi_bn, isi_ls, isi_li, isi_lb, isi_ll, isi_lt, isi_ln, isi_ts, isi_ti, isi_tb, isi_tl, isi_tt, isi_tn, tl_s, tl_i, tl_b, tl_l, tl_t, tl_n, List.getElem?_cons_zero, List.getElem?_cons_succ, List.set_cons_zero, List.set_cons_succ, List.length_cons, List.length_nil, Nat.reduceAdd, Nat.reduceLT, Nat.reduceLeDiff, Nat.zero_lt_succ, D.bl.injEq, D.int.injEq, D.str.injEq, exists_eq_left', exists_eq_left, true_and, and_true, forall_const, Bool.true_and, Bool.and_true, Bool.false_eq_true, Bool.not_true, Bool.not_false, if_true, true_implies, false_implies, eq_self, Bool.true_eq_false, reduceCtorEq, decide_true, decide_eq_true_eq, decide_eq_false_iff_not, Decidable.not_not, beq_self_eq_true, not_true_eq_false, not_false_eq_true, Bool.not_eq_true', Bool.not_eq_false', Option.some.injEq, wipeD, List.map_cons, List.map_nil, List.foldr_cons, List.foldr_nil, tgName, tgTup, tgNames, Option.bind_some, and_self])
      refine ⟨_, ct1, ?_⟩
      (try simp only [w_var, w_bor, w_kint, w_kstr, w_kbl, w_knon, w_gint, w_gstr, w_bin, w_binN, w_cmp, w_ix, w_chn, chnW_b, w_neg, w_notv, w_one, w_andv, w_orv, w_ite, w_tup, w_lst, w_cal, w_listN, w_tupC, w_intC, w_isi, w_isi2', w_sl, w_slN, w_pn, w_ps, w_nil, w_cons, w_tval, w_tcmp, w_tchn, w_tnot, w_tw, w_tone, w_tyes, w_tand, w_tor, w_seq, w_r1, w_r2, w_r3, w_fld, w_prop, w_enu, w_lrg, w_ltx, w_srt, Fl.f, w_snil, w_ret, w_retN, w_asg, w_own, w_expr, w_if, w_for, w_brk, w_cnt, w_pass, w_raise, w_app2, ownL_o, w_par, w_unp, w_lcAf, w_lcAt, wp_of_some, wp_of_ite, wp_ok, wp_bad, wp_exc, wp_nx, wp_rt, wp_bk, wp_ct, wp_xc, wp_no, getV, borV, Bo.f, BoN.f, Co.f, Bi.f, Tg.t, addD_i, addD_s, addD_t, catD_l, subD_i, mulD_i, mulD_s, mulD_t, repD_l, fdivD_i, modD_i, eqD_s, eqD_i, eqD_b, neD_s, neD_i, neD_b, ltD_i, gtD_i, leD_i, geD_i, isND_n, notND_n, nonD_n, nonD_s, nonD_i, nonD_b, nonD_l, nonD_t, inD_s, ninD_s, ixD_l, ixD_t, lenD_l, lenD_t, lenD_s, max2_i, min2_i, listL_l, listL_t, tupL_l, tupL_t, int1_i, items_l, items_t, items_s, rng1_i, rng2_i, slD_s, slD_t, slN_l, isi_ss, isi_si, isi_sb, isi_sl, isi_st, isi_sn, isi_is, isi_ii, isi_ib, isi_il, isi_it, isi_in, isi_bs, isi_bi, isi_bb, isi_bl, isi_bt, isi_bn, isi_ls, isi_li, isi_lb, isi_ll, isi_lt, isi_ln, isi_ts, isi_ti, isi_tb, isi_tl, isi_tt, isi_tn, tl_s, tl_i, tl_b, tl_l, tl_t, tl_n, List.getElem?_cons_zero, List.getElem?_cons_succ, List.set_cons_zero, List.set_cons_succ, List.length_cons, List.length_nil, Nat.reduceAdd, Nat.reduceLT, Nat.reduceLeDiff, Nat.zero_lt_succ, D.bl.injEq, D.int.injEq, D.str.injEq, exists_eq_left', exists_eq_left, true_and, and_true, forall_const, Bool.true_and, Bool.and_true, Bool.false_eq_true, Bool.not_true, Bool.not_false, if_true, true_implies, false_implies, eq_self, Bool.true_eq_false, reduceCtorEq, decide_true, decide_eq_true_eq, decide_eq_false_iff_not, Decidable.not_not, beq_self_eq_true, not_true_eq_false, not_false_eq_true, Bool.not_eq_true', Bool.not_eq_false', Option.some.injEq, wipeD, List.map_cons, List.map_nil, List.foldr_cons, List.foldr_nil, tgName, tgTup, tgNames, Option.bind_some, and_self])
      rw [show (decide (w ∈ ws) == decide (rot w a1 = w)) = true by rw [beq_iff_eq, decide_eq_decide]; exact hiff]
      exact And.intro (fun h => by cases h) (fun _ => ⟨sr4, _, _, rfl, ok4⟩)
    · rintro s ⟨sr3, a, c, rfl, ok3⟩
      (try simp only [w_var, w_bor, w_kint, w_kstr, w_kbl, w_knon, w_gint, w_gstr, w_bin, w_binN, w_cmp, w_ix, w_chn, chnW_b, w_neg, w_notv, w_one, w_andv, w_orv, w_ite, w_tup, w_lst, w_cal, w_listN, w_tupC, w_intC, w_isi, w_isi2', w_sl, w_slN, w_pn, w_ps, w_nil, w_cons, w_tval, w_tcmp, w_tchn, w_tnot, w_tw, w_tone, w_tyes, w_tand, w_tor, w_seq, w_r1, w_r2, w_r3, w_fld, w_prop, w_enu, w_lrg, w_ltx, w_srt, Fl.f, w_snil, w_ret, w_retN, w_asg, w_own, w_expr, w_if, w_for, w_brk, w_cnt, w_pass, w_raise, w_app2, ownL_o, w_par, w_unp, w_lcAf, w_lcAt, wp_of_some, wp_of_ite, wp_ok, wp_bad, wp_exc, wp_nx, wp_rt, wp_bk, wp_ct, wp_xc, wp_no, getV, borV, Bo.f, BoN.f, Co.f, Bi.f, Tg.t, addD_i, addD_s, addD_t, catD_l, subD_i, mulD_i, mulD_s, mulD_t, repD_l, fdivD_i, modD_i, eqD_s, eqD_i, eqD_b, neD_s, neD_i, neD_b, ltD_i, gtD_i, leD_i, geD_i, isND_n, notND_n, nonD_n, nonD_s, nonD_i, nonD_b, nonD_l, nonD_t, inD_s, ninD_s, ixD_l, ixD_t, lenD_l, lenD_t, lenD_s, max2_i, min2_i, listL_l, listL_t, tupL_l, tupL_t, int1_i, items_l, items_t, items_s, rng1_i, rng2_i, slD_s, slD_t, slN_l, isi_ss, isi_si, isi_sb, isi_sl, isi_st, isi_sn, isi_is, isi_ii, isi_ib, isi_il, isi_it, isi_in, isi_bs, isi_bi, isi_bb, isi_bl, isi_bt, isi_bn, isi_ls, isi_li, isi_lb, isi_ll, isi_lt, isi_ln, isi_ts, isi_ti, isi_tb, isi_tl, isi_tt, isi_tn, tl_s, tl_i, tl_b, tl_l, tl_t, tl_n, List.getElem?_cons_zero, List.getElem?_cons_succ, List.set_cons_zero, List.set_cons_succ, List.length_cons, List.length_nil, Nat.reduceAdd, Nat.reduceLT, Nat.reduceLeDiff, Nat.zero_lt_succ, D.bl.injEq, D.int.injEq, D.str.injEq, exists_eq_left', exists_eq_left, true_and, and_true, forall_const, Bool.true_and, Bool.and_true, Bool.false_eq_true, Bool.not_true, Bool.not_false, if_true, true_implies, false_implies, eq_self, Bool.true_eq_false, reduceCtorEq, decide_true, decide_eq_true_eq, decide_eq_false_iff_not, Decidable.not_not, beq_self_eq_true, not_true_eq_false, not_false_eq_true, Bool.not_eq_true', Bool.not_eq_false', Option.some.injEq, wipeD, List.map_cons, List.map_nil, List.foldr_cons, List.foldr_nil, tgName, tgTup, tgNames, Option.bind_some, and_self])
      exact ⟨_, rfl⟩)

end Cut
open PySem PySem.W PyProof.Rows
set_option maxHeartbeats 0 in
theorem PySem.Challenge.cw_cutanywhere_k06_whole_codes_of_rings_holds : PySem.Challenge.rw_cutanywhere_k06_whole_codes_of_rings.Holds := by
  w_on; o_law; k_head; (case hw => w_witness2)
  k_fill
  refine L2.walk_of (l := PySem.Challenge.rw_cutanywhere_k06_whole_codes_of_rings) (n := 63) (k := 7) (x := "_law_script") (CX := fun w => L2.CX (PySem.Challenge.rw_cutanywhere_k06_whole_codes_of_rings : PySem.W.OpenLaw).prog w) (sp := fun w => Cut.spLaw _) rfl (by decide) rfl ⟨rfl, by decide, by decide⟩ (fun w h Y => PySem.W.kIn_of Y) ?F (fun _ _ a ns hl _ hS => ⟨a, ns, rfl, hS, hl, fun _ => rfl⟩) (fun _ _ _ _ _ ⟨_, _, _, _, _, _, _, _, _, _, _, _, h⟩ => h)
  case F =>
    intro w mg fa h KX G hmg
    refine' Cut.all_mk (cc := 0) Cut.law_true KX G hmg ?a0 ?l0 ?c0 ?k0 ?a1 ?l1 ?c1 ?k1 ?a2 ?l2 ?c2 ?k2 ?a3 ?l3 ?c3 ?k3 ?a4 ?l4 ?c4 ?k4 ?a5 ?l5 ?c5 ?k5 ?a6 ?l6 ?c6 ?k6 ?a7 ?l7 ?c7 ?k7 ?a8 ?l8 ?c8 ?k8 ?a9 ?l9 ?c9 ?k9 ?a10 ?l10 ?c10 ?k10 ?a11 ?l11 ?c11 ?k11 ?a12 ?l12 ?c12 ?k12 ?a13 ?l13 ?c13 ?k13 ?a14 ?l14 ?c14 ?k14 ?a15 ?l15 ?c15 ?k15 ?a16 ?l16 ?c16 ?k16 ?a17 ?l17 ?c17 ?k17 ?a18 ?l18 ?c18 ?k18 ?a19 ?l19 ?c19 ?k19 ?a20 ?l20 ?c20 ?k20 ?a21 ?l21 ?c21 ?k21 ?z0 ?z1 ?z2 ?z3 ?z4 ?z5 ?z6 ?z7 ?z8 ?z9 ?z10 ?z11 ?z12 ?z13 ?ci0 ?ci1 ?ci2 ?cs0 ?ea0 ?ex0 ?ek0 ?es0 ?et0 ?ea1 ?ex1 ?ek1 ?es1 ?et1
    (case a0 => k_is); (case l0 => k_is); (case c0 => k_is); (case k0 => k_is); (case a1 => k_is); (case l1 => k_is); (case c1 => k_is); (case k1 => k_is); (case a2 => k_is); (case l2 => k_is); (case c2 => k_is); (case k2 => k_is); (case a3 => k_is); (case l3 => k_is); (case c3 => k_is); (case k3 => k_is); (case a4 => k_is); (case l4 => k_is); (case c4 => k_is); (case k4 => k_is); (case a5 => k_is); (case l5 => k_is); (case c5 => k_is); (case k5 => k_is); (case a6 => k_is); (case l6 => k_is); (case c6 => k_is); (case k6 => k_is); (case a7 => k_is); (case l7 => k_is); (case c7 => k_is); (case k7 => k_is); (case a8 => k_is); (case l8 => k_is); (case c8 => k_is); (case k8 => k_is); (case a9 => k_is); (case l9 => k_is); (case c9 => k_is); (case k9 => k_is); (case a10 => k_is); (case l10 => k_is); (case c10 => k_is); (case k10 => k_is); (case a11 => k_is); (case l11 => k_is); (case c11 => k_is); (case k11 => k_is); (case a12 => k_is); (case l12 => k_is); (case c12 => k_is); (case k12 => k_is); (case a13 => k_is); (case l13 => k_is); (case c13 => k_is); (case k13 => k_is); (case a14 => k_is); (case l14 => k_is); (case c14 => k_is); (case k14 => k_is); (case a15 => k_is); (case l15 => k_is); (case c15 => k_is); (case k15 => k_is); (case a16 => k_is); (case l16 => k_is); (case c16 => k_is); (case k16 => k_is); (case a17 => k_is); (case l17 => k_is); (case c17 => k_is); (case k17 => k_is); (case a18 => k_is); (case l18 => k_is); (case c18 => k_is); (case k18 => k_is); (case a19 => k_is); (case l19 => k_is); (case c19 => k_is); (case k19 => k_is); (case a20 => k_is); (case l20 => k_is); (case c20 => k_is); (case k20 => k_is); (case a21 => k_is); (case l21 => k_is); (case c21 => k_is); (case k21 => k_is); (case z0 => k_is); (case z1 => k_is); (case z2 => k_is); (case z3 => k_is); (case z4 => k_is); (case z5 => k_is); (case z6 => k_is); (case z7 => k_is); (case z8 => k_is); (case z9 => k_is); (case z10 => k_is); (case z11 => k_is); (case z12 => k_is); (case z13 => k_is); (case ci0 => k_is); (case ci1 => k_is); (case ci2 => k_is); (case cs0 => k_is); (case ea0 => k_is); (case ex0 => k_exc); (case ek0 => k_is); (case es0 => k_is); (case et0 => k_is); (case ea1 => k_is); (case ex1 => k_exc); (case ek1 => k_is); (case es1 => k_is); (case et1 => k_is)
