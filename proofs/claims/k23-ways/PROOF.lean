import PyProof.Rows.All
import Wide.All
import OpenK.AllK
import Wide.FinOn
import HandS.ForMost
import HandS.TupAny
import HandS.TupMul
import HandS.Exc
import HandS.ExcOwn
import HandS.WordsExc
import HandS.CallSlots
import HandS.Defaults
import HandS.Deep
import HandS.IsInst
import HandS.Text
import HandS.StrMore
import HandS.Dict
import HandS.Style
import HandS.NoneIn
import HandS.Flow
import HandS.Iter
import HandS.Zip
import KE.GoesNew
import HandS.SetFor
import HandS.SetKeys
import HandS.Strs
import HandS.SortInts
import HandS.RaiseMore
import HandS.Small
import KE.KDictPairs
import HandS.HeadEnd
import HandS.Head0
import HandS.Head1
import HandS.Head2
import HandS.HeadHook1
import HandS.HeadHook2
import HandS.HeadHook3
import HandS.HeadHook4
import Lean
import PySem.Challenge.RW_lastremains_k23_whole_ways_calls_and_row
set_option Elab.async false
set_option linter.all false
set_option maxRecDepth 100000
set_option maxHeartbeats 4000000
section
/-! VA0: tuples made anew, their objects told (no attributes of their own). -/
namespace L2
namespace Vf
open PySem PySem.Spec PyProof.Rows
/-- nothing of its own beside its data -/
def Pl (o : Obj) : Prop := o.dict = none ∧ o.slots = #[]
section
variable {X : Cx} {es : List Expr} {t : TA} {pos : Pos}
/-- a new tuple, told -/
abbrev NewT (H : Hp) (xs : List V) (Q : VK) : Prop := ∀ (p : Addr) (o : Obj), H p = none → Pl o → Q (.ref p) (upd H p (.frz o (.tup xs)))
theorem laidT {pins : List (Addr × Obj)} {σ : L2.St} {H : Hp} {s : Shared} {xs : List V} {its : List Value} {Q : VK} (I : Inv X pins σ H s) (r : Vals xs its) (z : xs.length ≤ sizeLine) (q : NewT H xs Q) :
    EP X pins σ Q (.ref s.heap.objs.size) { s with heap := s.heap.push { cls := .type "tuple", data := .seq its.toArray } } := by
  have g : (s.heap.push { cls := .type "tuple", data := .seq its.toArray }).get? s.heap.objs.size = some { cls := .type "tuple", data := .seq its.toArray } := Heap.get?_push_size _ rfl
  exact ⟨.ref s.heap.objs.size, _, I.laid (t' := s.toks) (o := .frz { cls := .type "tuple", data := .seq its.toArray } (.tup xs)) (fun b u e => Heap.get?_push_of_some _ e) (Nat.le_refl _) ⟨g, z, its, r, _, g, rfl, _, rfl⟩, rfl, q _ _ (I.hok.fresh (Nat.le_refl _)) ⟨rfl, rfl⟩⟩
theorem pe_tupF {x1 : Nat} (h : PA X es t) : PE X (.Tuple es x1 pos) (fun σ H Q => t σ H fun xs H1 => xs.length ≤ sizeLine ∧ NewT H1 xs Q) :=
  ⟨fun pins s σ H Q I hq => wpAny_Tuple_spliced (thn (h.run pos pins s σ H _ I hq) fun us s1 ⟨xs, H1, I1, r, z, q⟩ => ⟨by rw [← r.length]; exact z, laidT I1 r z q⟩)⟩
def rCatF (K : PySem.W.Frag) : R2 := fun x y H Q => ∃ a b xs ys, x = .ref a ∧ y = .ref b ∧ SqT K H a xs ∧ SqT K H b ys ∧ xs.length + ys.length ≤ sizeLine ∧
  (xs = [] → Q (.ref b) H) ∧ (xs ≠ [] → ys = [] → Q (.ref a) H) ∧ (xs ≠ [] → ys ≠ [] → NewT H (xs ++ ys) Q)
theorem op_catF : OpR X (binaryOp .Add) (rCatF X.K) := by
  intro pins s σ H x y v u Q I rx ry ⟨a, b, xs, ys, ex, ey, ha, hb, hz, q0, q1, q2⟩
  subst ex ey
  cases rx
  cases ry
  obtain ⟨its, r1, p1, _⟩ := I.tuple ha
  obtain ⟨its2, r2, p2, _⟩ := I.tuple hb
  by_cases hx : xs = []
  · subst hx
    cases r1
    exact cat_tup0 p1 p2 ⟨.ref b, H, I, rfl, q0 rfl⟩
  · refine HT.cat_tup p1 p2 (fun z => hx (r1.nil_iff.mp z)) (fun z => ⟨.ref a, H, I, rfl, q1 hx (r2.nil_iff.mp z)⟩) (fun z => ?_) (by rw [← r1.length, ← r2.length]; exact hz)
    exact laidT I (r1.append r2) (by rw [List.length_append]; exact hz) (q2 hx fun w => z (r2.nil_iff.mpr w))
def rSlF (K : PySem.W.Frag) : V → Option Int → Option Int → Hp → VK → Prop := fun x lo hi H Q => ∃ a xs, x = .ref a ∧ SqT K H a xs ∧
  (HT.sIx xs.length 0 lo = 0 ∧ HT.sIx xs.length xs.length hi = xs.length → Q (.ref a) H) ∧ (¬ (HT.sIx xs.length 0 lo = 0 ∧ HT.sIx xs.length xs.length hi = xs.length) → NewT H (cutV xs lo hi) Q)
theorem sl_tupF : SlR X (rSlF X.K) := by
  intro pins s σ H x v vl vu lo hi sl Q I rx hs pl pu ⟨a, xs, ex, hx, q1, q2⟩
  subst ex
  cases rx
  obtain ⟨its, r, ht, hz⟩ := I.tuple hx
  have hlen : its.toArray.size = xs.length := by rw [List.size_toArray]; exact r.length.symm
  by_cases hw : HT.sIx xs.length 0 lo = 0 ∧ HT.sIx xs.length xs.length hi = xs.length
  · exact ⟨"tuple", _, PyProof.Rows.slot_tuple_getitem.lookup, ht.typeIs, getItem_tuple_whole ht hs pl pu (by rw [hlen]; exact hw) ⟨.ref a, H, I, rfl, q1 hw⟩⟩
  · refine ⟨"tuple", _, PyProof.Rows.slot_tuple_getitem.lookup, ht.typeIs, HT.getItem_tuple_cut ht hs pl pu (by rw [hlen]; exact hw) ?_ (by rw [hlen]; exact hz)⟩
    rw [hlen]
    exact laidT I ((r.drop (HT.sIx xs.length 0 lo)).take (HT.sIx xs.length xs.length hi - HT.sIx xs.length 0 lo)) (Nat.le_trans (cutV_length xs lo hi) hz) (q2 hw)
theorem call_tupleF : CallR X (.type "tuple") (fun xs H Q => ∃ p ys, xs = [.ref p] ∧ ((SqL X.K H p ys ∧ NewT H ys Q) ∨ (SqT X.K H p ys ∧ Q (.ref p) H))) := by
  intro pins s σ H xs us Q I r ⟨p, ys, ex, h⟩
  subst ex
  obtain ⟨u, rfl, rx⟩ := vals1 r
  cases rx
  rcases h with ⟨hq, q⟩ | ⟨hq, q⟩
  · obtain ⟨its, r', pl, hz⟩ := I.list hq
    have hlen := r'.length
    refine call_tuple_list pl.isList (fun h' kp => ?_) (by simp only [List.size_toArray] <;> omega)
    have I1 : Inv X pins σ H { s with heap := h' } := I.kept (t' := s.toks) kp
    exact laidT I1 r' hz q
  · obtain ⟨its, r', pl, hz⟩ := I.tuple hq
    exact call_tuple_same pl ⟨.ref p, H, I, rfl, q⟩
/-- t * k, of any k within reason -/
def rRepF (K : PySem.W.Frag) : R2 := fun x y H Q => ∃ l k xs, x = .ref l ∧ y = .int k ∧ SqT K H l xs ∧ xs ≠ [] ∧ 2 ≤ k ∧ k ≤ 1000 ∧ xs.length ≤ 1000 ∧ NewT H (List.replicate k.toNat xs).flatten Q
theorem op_repF : OpR X (binaryOp .Mult) (rRepF X.K) := by
  intro pins s σ H x y v u Q I rx ry ⟨l, k, xs, ex, ey, hT, hne, h1, h2, hz, q⟩
  subst ex ey
  cases rx
  obtain ⟨t, rfl⟩ := ry
  obtain ⟨its, r, ⟨⟨cls, dd, data, sl⟩, ho, hc, n, hd⟩, hs⟩ := I.tuple hT
  simp only at hc hd
  subst hc hd
  have hle : its.length = xs.length := r.length.symm
  have hi : its.toArray.isEmpty = false := by
    cases its with
    | nil => exact absurd (List.eq_nil_of_length_eq_zero hle.symm) hne
    | cons a b => rfl
  have hsz0 : its.toArray.size = xs.length := by rw [List.size_toArray, hle]
  have hm : ((its.toArray.size : Nat) : Int) * k ≤ 1000000 := by
    rw [hsz0]
    have a1 : ((xs.length : Nat) : Int) * k ≤ 1000 * k := Int.mul_le_mul_of_nonneg_right (by omega) (by omega)
    omega
  have a1 : k.toNat * xs.length ≤ 1000 * 1000 := Nat.mul_le_mul (by omega) hz
  have flen : (List.replicate k.toNat its).flatten.length ≤ sizeLine := by
    rw [PyProof.Rows.lm_len_rep_flat, hle, sizeLine_eq]
    omega
  have flen2 : (List.replicate k.toNat xs).flatten.length ≤ sizeLine := by
    rw [PyProof.Rows.lm_len_rep_flat, sizeLine_eq]
    omega
  have c0 : (decide (k < -(2 ^ 63)) || decide (k ≥ 2 ^ 63)) = false := by rw [decide_eq_false (by omega), decide_eq_false (by omega)] <;> rfl
  have c1 : (its.toArray.isEmpty || k == 1) = false := by rw [hi, Bool.false_or]; exact beq_eq_false_iff_ne.mpr (by omega)
  have c2 : (decide (k ≤ 0) || its.toArray.isEmpty) = false := by rw [hi, Bool.or_false]; exact decide_eq_false (by omega)
  have c4 : Builtin.Tuple.tupleTooMany (((its.toArray.size : Nat) : Int) * k) = false := by
    unfold Builtin.Tuple.tupleTooMany
    rw [sizeLine_eq]
    exact decide_eq_false (by omega)
  refine wpAny_binaryOp_repeat_ref (T := "tuple") (U := "int") (by decide) ⟨_, ho, rfl⟩ (fun s' => typeIs_int s' k t) noFill_tuple_mul F.fills_int_mul F.slot_int_rmul repeat_tuple F.slot_int_index.lookup
    (call_meets F.slot_int_rmul (typeIs_int s k t) F.entry_int_rmul (F.args_int_rmul_2 _ _) (int_rmul_tuple k t l its.toArray n dd sl)
      ⟨ho, rfl, ⟨_, ho, rfl⟩, call_meets F.slot_tuple_mul ⟨_, ho, rfl⟩ F.entry_tuple_mul (F.args_tuple_mul_2 _ _) (tuple_mulW l its.toArray n dd sl k t c0 c1 c2 (by omega) c4 (by rw [size_rep, List.size_toArray]; exact flen)) ⟨ho, ?_⟩⟩)
  rw [size_rep]
  exact laidT I (r.rep k.toNat) flen2 q
end
end Vf
end L2
end
section
/-! VA: own values, own heap, their relation to the layer's. -/
namespace L2
namespace Vf
open PySem PySem.Spec PyProof.Rows

/-- wd: a written dict, by number, with its keys, values. own values: tuples are values, lists and dicts stand in the own heap; fl: a list that is only read -/
inductive MV where
  | non | bl (b : Bool) | int (i : Int) | str (cs : List Nat) | tup (xs : List MV) | loc (n : Nat) | fl (xs : List MV) | ty (n : Nat) | cls (i : Nat) | wd (i : Nat) (ks vs : List MV) | pr (xs : List MV)
/-- what stands in the own heap -/
inductive MO where
  | lst (xs : List MV) | dct (kvs : List (MV × MV))
abbrev MH := List MO
/-- an exception: its class (by number), its fields -/
structure MX where
  c : Nat
  fs : List (Str × MV)
inductive Rs (α : Type) where
  | ok (a : α) (h : MH) | exc (e : MX) (h : MH) | stuck
abbrev Env' := List (Option MV)
structure Rt where
  call : Nat → List MV → MH → Rs MV
  fuel : Nat
abbrev DE := Rt → Env' → MH → Rs MV
abbrev DB := Rt → Env' → MH → Rs Bool
abbrev DL := Rt → Env' → MH → Rs (List MV)
/-- what a loop walks: at a turn, by the heap, the next item, or none -/
abbrev Nxt := Nat → MH → Option (Option MV)
abbrev DI := Rt → Env' → MH → Rs Nxt
inductive RsS where
  | nx (e : Env') (h : MH) | rt (v : MV) (h : MH) | bk (e : Env') (h : MH) | ct (e : Env') (h : MH) | exc (x : MX) (e : Env') (h : MH) | stuck
abbrev DS := Rt → Env' → MH → RsS
/-- a target: the value, then as a statement -/
abbrev DG := Rt → MV → Env' → MH → RsS

def S (cs : List Nat) : Str := ⟨cs.toArray⟩
theorem S_inj {a b : List Nat} (h : S a = S b) : a = b := by
  unfold S at h
  have := congrArg (fun x : Str => x.cps.toList) h
  simpa using this
theorem S_eta (x : Str) : S x.cps.toList = x := by cases x; simp [S]
theorem S_cps (a : List Nat) : (S a).cps.toList = a := by simp [S]
theorem S_len (a : List Nat) : (S a).length = a.length := by simp [S, Str.length]

/-- the built-in classes by numbers -/
def tyN : Nat → String
  | 0 => "NoneType" | 1 => "bool" | 2 => "int" | 3 => "str" | 4 => "list" | 5 => "tuple" | 6 => "dict" | _ => "set"
/-- the written part, and where the own classes stand -/
structure Tx where
  K : PySem.W.Frag
  ca : Nat → Addr
  wa : Nat → Addr := fun _ => 0
  wks : Nat → List MV := fun _ => []
  wvs : Nat → List MV := fun _ => []
section
variable (K : Tx)
/-- a tuple that stands still, without attributes of its own: tracked and none of the own, or the module's -/
def Tp (ρ : List Addr) (H : Hp) (a : Addr) (vs : List V) : Prop :=
  ((∃ o, H a = some (.frz o (.tup vs)) ∧ Pl o) ∧ a ∉ ρ) ∨
    ∃ (o : Obj) (its : Array Value) (n : Nat), K.K.lookup a = some o ∧ o.cls = .type "tuple" ∧ o.data = .seq its n ∧ its.size ≤ sizeLine ∧ Vals vs its.toList ∧ Pl o
/-- a list that is only read -/
def Fl (ρ : List Addr) (H : Hp) (a : Addr) (vs : List V) : Prop :=
  ((∃ o, H a = some (.frz o (.lst vs))) ∧ a ∉ ρ) ∨
    ∃ (o : Obj) (its : Array Value) (n : Nat), K.K.lookup a = some o ∧ o.cls = .type "list" ∧ o.dict = none ∧ o.data = .seq its n ∧ its.size ≤ sizeLine ∧ Vals vs its.toList
theorem Tp.sq {K : Tx} {ρ : List Addr} {H : Hp} {a : Addr} {vs : List V} (h : Tp K ρ H a vs) : SqT K.K H a vs := h.imp (fun ⟨⟨o, e, _⟩, _⟩ => .inr ⟨o, e⟩) fun ⟨o, its, n, a, b, c, d, e, _⟩ => ⟨o, its, n, a, b, c, d, e⟩
theorem Fl.sq {K : Tx} {ρ : List Addr} {H : Hp} {a : Addr} {vs : List V} (h : Fl K ρ H a vs) : SqL K.K H a vs := h.imp (fun x => .inr x.1) id
mutual
def RV (ρ : List Addr) (H : Hp) : MV → V → Prop
  | .non, v => v = .non
  | .bl b, v => v = .bl b
  | .int i, v => v = .int i
  | .str cs, v => v = .str (S cs)
  | .tup xs, v => ∃ a vs, v = .ref a ∧ Tp K ρ H a vs ∧ RVs ρ H xs vs
  | .loc n, v => ∃ a, v = .ref a ∧ ρ[n]? = some a
  | .fl xs, v => ∃ a vs, v = .ref a ∧ Fl K ρ H a vs ∧ RVs ρ H xs vs
  | .ty n, v => v = .ty (tyN n)
  | .cls i, v => v = .ref (K.ca i)
  | .wd i ks vs, v => v = .ref (K.wa i) ∧ ks = K.wks i ∧ vs = K.wvs i
  | .pr xs, v => ∃ a vs, v = .ref a ∧ (H a = some (.tup vs) ∧ a ∉ ρ) ∧ RVs ρ H xs vs
def RVs (ρ : List Addr) (H : Hp) : List MV → List V → Prop
  | [], vs => vs = []
  | x :: xs, vs => ∃ v r, vs = v :: r ∧ RV ρ H x v ∧ RVs ρ H xs r
end
/-- what stands behind: the new ones' addresses were free, all else is kept -/
structure Ext (ρ : List Addr) (H : Hp) (ρ' : List Addr) (H' : Hp) : Prop where
  pre : ∃ nw, ρ' = ρ ++ nw ∧ ∀ a ∈ nw, H a = none
  keep : ∀ a o, H a = some o → a ∉ ρ → H' a = some o
end
section
variable {K : Tx} {ρ ρ' ρ'' : List Addr} {H H' H'' : Hp}
theorem Ext.refl : Ext ρ H ρ H := ⟨⟨[], by simp, by simp⟩, fun _ _ h _ => h⟩
theorem Ext.out (e : Ext ρ H ρ' H') {a : Addr} {o : HO} (h : H a = some o) (n : a ∉ ρ) : a ∉ ρ' := by
  obtain ⟨nw, rfl, hn⟩ := e.pre
  intro m
  rcases List.mem_append.mp m with m | m
  · exact n m
  · rw [hn a m] at h; cases h
theorem Ext.trans (e : Ext ρ H ρ' H') (f : Ext ρ' H' ρ'' H'') (l : ∀ a ∈ ρ', H' a ≠ none) : Ext ρ H ρ'' H'' := by
  obtain ⟨nw, e1, hn⟩ := e.pre
  obtain ⟨nw', e2, hn'⟩ := f.pre
  refine ⟨⟨nw ++ nw', by rw [e2, e1, List.append_assoc], fun a m => ?_⟩, fun a o h n => f.keep a o (e.keep a o h n) (e.out h n)⟩
  rcases List.mem_append.mp m with m | m
  · exact hn a m
  · cases q : H a with
    | none => rfl
    | some o =>
      exfalso
      by_cases n : a ∈ ρ
      · exact l a (by rw [e1]; exact List.mem_append_left _ n) (hn' a m)
      · have := e.keep a o q n
        rw [hn' a m] at this; cases this
theorem Ext.sub (e : Ext ρ H ρ' H') {a : Addr} (m : a ∈ ρ) : a ∈ ρ' := by
  obtain ⟨nw, rfl, _⟩ := e.pre
  exact List.mem_append_left _ m
theorem Ext.get (e : Ext ρ H ρ' H') {n : Nat} {a : Addr} (m : ρ[n]? = some a) : ρ'[n]? = some a := by
  obtain ⟨nw, rfl, _⟩ := e.pre
  rw [List.getElem?_append_left (List.getElem?_eq_some_iff.mp m).1]; exact m
theorem Ext.rd (e : Ext ρ H ρ' H') {a : Addr} {u : HO} (h : Rd H a u) (n : a ∉ ρ) : Rd H' a u ∧ a ∉ ρ' := by
  rcases h with h | ⟨o, h⟩
  · exact ⟨.inl (e.keep _ _ h n), e.out h n⟩
  · exact ⟨.inr ⟨o, e.keep _ _ h n⟩, e.out h n⟩
/-- what never changes is kept -/
structure Ims (ρ : List Addr) (H : Hp) (ρ' : List Addr) (H' : Hp) : Prop where
  get : ∀ (n : Nat) (a : Addr), ρ[n]? = some a → ρ'[n]? = some a
  tup : ∀ a vs, H a = some (.tup vs) → a ∉ ρ → H' a = some (.tup vs) ∧ a ∉ ρ'
  frz : ∀ a o u, H a = some (.frz o u) → a ∉ ρ → H' a = some (.frz o u) ∧ a ∉ ρ'
theorem Ext.im (e : Ext ρ H ρ' H') : Ims ρ H ρ' H' := ⟨fun _ _ m => e.get m, fun _ _ h n => ⟨e.keep _ _ h n, e.out h n⟩, fun _ _ _ h n => ⟨e.keep _ _ h n, e.out h n⟩⟩
theorem Tp.im (e : Ims ρ H ρ' H') {a : Addr} {vs : List V} (h : Tp K ρ H a vs) : Tp K ρ' H' a vs :=
  h.imp (fun ⟨⟨o, h1, h3⟩, h2⟩ => ⟨⟨o, (e.frz _ _ _ h1 h2).1, h3⟩, (e.frz _ _ _ h1 h2).2⟩) id
theorem Fl.im (e : Ims ρ H ρ' H') {a : Addr} {vs : List V} (h : Fl K ρ H a vs) : Fl K ρ' H' a vs :=
  h.imp (fun ⟨⟨o, h1⟩, h2⟩ => ⟨⟨o, (e.frz _ _ _ h1 h2).1⟩, (e.frz _ _ _ h1 h2).2⟩) id
mutual
theorem RV.im (e : Ims ρ H ρ' H') : ∀ {m : MV} {v : V}, RV K ρ H m v → RV K ρ' H' m v
  | .non, _, h => h
  | .bl _, _, h => h
  | .int _, _, h => h
  | .str _, _, h => h
  | .tup _, _, h => by
    unfold RV at h ⊢
    obtain ⟨a, vs, e1, h1, h2⟩ := h
    exact ⟨a, vs, e1, h1.im e, RVs.im e h2⟩
  | .loc _, _, h => by
    unfold RV at h ⊢
    obtain ⟨a, e1, h1⟩ := h
    exact ⟨a, e1, e.get _ _ h1⟩
  | .fl _, _, h => by
    unfold RV at h ⊢
    obtain ⟨a, vs, e1, h1, h2⟩ := h
    exact ⟨a, vs, e1, h1.im e, RVs.im e h2⟩
  | .ty _, _, h => h
  | .cls _, _, h => h
  | .wd _ _ _, _, h => h
  | .pr _, _, h => by
    unfold RV at h ⊢
    obtain ⟨a, vs, e1, h1, h2⟩ := h
    exact ⟨a, vs, e1, e.tup _ _ h1.1 h1.2, RVs.im e h2⟩
theorem RVs.im (e : Ims ρ H ρ' H') : ∀ {ms : List MV} {vs : List V}, RVs K ρ H ms vs → RVs K ρ' H' ms vs
  | [], _, h => h
  | _ :: _, _, h => by
    unfold RVs at h ⊢
    obtain ⟨v, r, e1, h1, h2⟩ := h
    exact ⟨v, r, e1, RV.im e h1, RVs.im e h2⟩
end
theorem RV.mono (e : Ext ρ H ρ' H') {m : MV} {v : V} (h : RV K ρ H m v) : RV K ρ' H' m v := h.im e.im
theorem RVs.mono (e : Ext ρ H ρ' H') {ms : List MV} {vs : List V} (h : RVs K ρ H ms vs) : RVs K ρ' H' ms vs := h.im e.im
theorem RVs.nil : RVs K ρ H [] [] := by unfold RVs; rfl
theorem RVs.cons {m : MV} {ms : List MV} {v : V} {vs : List V} (h : RV K ρ H m v) (t : RVs K ρ H ms vs) : RVs K ρ H (m :: ms) (v :: vs) := by
  unfold RVs; exact ⟨v, vs, rfl, h, t⟩
theorem RVs.len : ∀ {ms : List MV} {vs : List V}, RVs K ρ H ms vs → vs.length = ms.length
  | [], _, h => by unfold RVs at h; rw [h]; rfl
  | _ :: _, _, h => by
    unfold RVs at h
    obtain ⟨v, r, rfl, _, h2⟩ := h
    simp [RVs.len h2]
theorem RVs.get : ∀ {ms : List MV} {vs : List V} {i : Nat} {m : MV}, RVs K ρ H ms vs → ms[i]? = some m → ∃ v, vs[i]? = some v ∧ RV K ρ H m v
  | [], _, _, _, _, e => by simp at e
  | _ :: _, _, 0, _, h, e => by
    unfold RVs at h
    obtain ⟨v, r, rfl, h1, _⟩ := h
    simp at e; subst e
    exact ⟨v, rfl, h1⟩
  | _ :: _, _, i + 1, _, h, e => by
    unfold RVs at h
    obtain ⟨v, r, rfl, _, h2⟩ := h
    obtain ⟨u, e1, h3⟩ := RVs.get (i := i) h2 (by simpa using e)
    exact ⟨u, by simpa using e1, h3⟩
theorem RVs.append : ∀ {xs ys : List MV} {vs us : List V}, RVs K ρ H xs vs → RVs K ρ H ys us → RVs K ρ H (xs ++ ys) (vs ++ us)
  | [], _, _, _, h, t => by unfold RVs at h; subst h; exact t
  | _ :: _, _, _, _, h, t => by
    unfold RVs at h
    obtain ⟨v, r, rfl, h1, h2⟩ := h
    exact .cons h1 (RVs.append h2 t)
theorem RVs.take : ∀ {xs : List MV} {vs : List V} (n : Nat), RVs K ρ H xs vs → RVs K ρ H (xs.take n) (vs.take n)
  | _, _, 0, _ => by simp only [List.take_zero]; exact .nil
  | [], _, n + 1, h => by unfold RVs at h; subst h; exact .nil
  | _ :: _, _, n + 1, h => by
    unfold RVs at h
    obtain ⟨v, r, rfl, h1, h2⟩ := h
    exact .cons h1 (RVs.take n h2)
theorem RVs.drop : ∀ {xs : List MV} {vs : List V} (n : Nat), RVs K ρ H xs vs → RVs K ρ H (xs.drop n) (vs.drop n)
  | _, _, 0, h => h
  | [], _, n + 1, h => by unfold RVs at h; subst h; exact .nil
  | _ :: _, _, n + 1, h => by
    unfold RVs at h
    obtain ⟨v, r, rfl, h1, h2⟩ := h
    exact RVs.drop n h2
theorem RVs.set : ∀ {xs : List MV} {vs : List V} (n : Nat) {m : MV} {v : V}, RVs K ρ H xs vs → RV K ρ H m v → RVs K ρ H (xs.set n m) (vs.set n v)
  | [], _, n, _, _, h, _ => by unfold RVs at h; subst h; exact .nil
  | _ :: _, _, 0, _, _, h, t => by
    unfold RVs at h
    obtain ⟨v, r, rfl, h1, h2⟩ := h
    exact .cons t h2
  | _ :: _, _, n + 1, _, _, h, t => by
    unfold RVs at h
    obtain ⟨v, r, rfl, h1, h2⟩ := h
    exact .cons h1 (RVs.set n h2 t)
theorem RVs.ints : ∀ {ns : List Int}, RVs K ρ H (ns.map .int) (ns.map V.int)
  | [] => .nil
  | _ :: _ => .cons (by unfold RV; rfl) RVs.ints
theorem RVs.one {m : MV} {vs : List V} (h : RVs K ρ H [m] vs) : ∃ v, vs = [v] ∧ RV K ρ H m v := by
  unfold RVs at h
  obtain ⟨v, r, rfl, h1, h2⟩ := h
  unfold RVs at h2
  subst h2
  exact ⟨v, rfl, h1⟩
theorem RVs.two {m n : MV} {vs : List V} (h : RVs K ρ H [m, n] vs) : ∃ v u, vs = [v, u] ∧ RV K ρ H m v ∧ RV K ρ H n u := by
  unfold RVs at h
  obtain ⟨v, r, rfl, h1, h2⟩ := h
  obtain ⟨u, rfl, h3⟩ := h2.one
  exact ⟨v, u, rfl, h1, h3⟩

/-- own keys of dicts -/
def keyM : Key → MV
  | .inl i => .int i
  | .inr x => .str x.cps.toList
def RKs (K : Tx) (ρ : List Addr) (H : Hp) : List (MV × MV) → List (Key × V) → Prop
  | [], l => l = []
  | p :: ps, l => ∃ k v r, l = (k, v) :: r ∧ p.1 = keyM k ∧ RV K ρ H p.2 v ∧ RKs K ρ H ps r
theorem RKs.im (e : Ims ρ H ρ' H') : ∀ {ms : List (MV × MV)} {vs : List (Key × V)}, RKs K ρ H ms vs → RKs K ρ' H' ms vs
  | [], _, h => h
  | _ :: _, _, h => by
    unfold RKs at h ⊢
    obtain ⟨k, v, r, e1, e2, h1, h2⟩ := h
    exact ⟨k, v, r, e1, e2, h1.im e, RKs.im e h2⟩
def RO (K : Tx) (ρ : List Addr) (H : Hp) : MO → Option HO → Prop
  | .lst xs, o => ∃ vs, o = some (.lst vs) ∧ RVs K ρ H xs vs
  | .dct kvs, o => ∃ l, o = some (.dK l) ∧ RKs K ρ H kvs l
theorem RO.im (e : Ims ρ H ρ' H') {m : MO} {o : Option HO} (h : RO K ρ H m o) : RO K ρ' H' m o := by
  cases m with
  | lst xs =>
    obtain ⟨vs, e1, h⟩ := h
    exact ⟨vs, e1, h.im e⟩
  | dct kvs =>
    obtain ⟨l, e1, h⟩ := h
    exact ⟨l, e1, h.im e⟩
theorem RO.mono (e : Ext ρ H ρ' H') {m : MO} {o : Option HO} (h : RO K ρ H m o) : RO K ρ' H' m o := h.im e.im
theorem RO.some {m : MO} {o : Option HO} (h : RO K ρ H m o) : o ≠ none := by
  cases m with
  | lst xs => obtain ⟨vs, e1, h⟩ := h; rw [e1]; simp
  | dct kvs => obtain ⟨l, e1, h⟩ := h; rw [e1]; simp
/-- the own heap is borne -/
structure RH (K : Tx) (ρ : List Addr) (mh : MH) (H : Hp) : Prop where
  len : ρ.length = mh.length
  nd : ρ.Nodup
  ob : ∀ (n : Nat) (a : Addr) (o : MO), ρ[n]? = some a → mh[n]? = some o → RO K ρ H o (H a)
theorem RH.at (h : RH K ρ mh H) {n : Nat} {a : Addr} (e : ρ[n]? = some a) : ∃ o, mh[n]? = some o ∧ RO K ρ H o (H a) := by
  have hl := (List.getElem?_eq_some_iff.mp e).1
  rw [h.len] at hl
  exact ⟨mh[n], by simp [hl], h.ob n a _ e (by simp [hl])⟩
theorem RH.has (h : RH K ρ mh H) {n : Nat} {o : MO} (e : mh[n]? = some o) : ∃ a, ρ[n]? = some a ∧ RO K ρ H o (H a) := by
  have hl := (List.getElem?_eq_some_iff.mp e).1
  rw [← h.len] at hl
  exact ⟨ρ[n], by simp [hl], h.ob n _ o (by simp [hl]) e⟩
theorem RH.ne (h : RH K ρ mh H) : ∀ a ∈ ρ, H a ≠ none := fun a m => by
  obtain ⟨n, e⟩ := List.getElem?_of_mem m
  obtain ⟨o, _, r⟩ := h.at e
  exact r.some
theorem RH.out (h : RH K ρ mh H) {a : Addr} (e : H a = none) : a ∉ ρ := fun m => h.ne a m e
theorem RH.keep (h : RH K ρ mh H) (e : Ext ρ H ρ H') (k : ∀ a ∈ ρ, H' a = H a) : RH K ρ mh H' :=
  ⟨h.len, h.nd, fun n a o e1 e2 => by rw [k a (List.mem_of_getElem? e1)]; exact (h.ob n a o e1 e2).mono e⟩
/-- a new thing that is not ours -/
theorem Ext.new {p : Addr} {o : HO} (h : H p = none) (n : p ∉ ρ) : Ext ρ H ρ (upd H p o) :=
  ⟨⟨[], by simp, by simp⟩, fun a u e _ => by rw [upd_ne (ne_of_none e h)]; exact e⟩
theorem RH.new (h : RH K ρ mh H) {p : Addr} {o : HO} (hp : H p = none) : Ext ρ H ρ (upd H p o) ∧ RH K ρ mh (upd H p o) := by
  have e := Ext.new (o := o) hp (h.out hp)
  exact ⟨e, h.keep e fun a m => upd_ne (fun q : a = p => h.out hp (by rw [← q]; exact m))⟩
/-- a new thing of our own -/
theorem RH.push (h : RH K ρ mh H) {p : Addr} {ho : HO} {o : MO} (hp : H p = none) (r : RO K ρ H o (some ho)) :
    Ext ρ H (ρ ++ [p]) (upd H p ho) ∧ RH K (ρ ++ [p]) (mh ++ [o]) (upd H p ho) ∧ (ρ ++ [p])[mh.length]? = some p := by
  have e : Ext ρ H (ρ ++ [p]) (upd H p ho) := ⟨⟨[p], rfl, fun a m => by simp at m; rw [m]; exact hp⟩, fun a u q _ => by rw [upd_ne (ne_of_none q hp)]; exact q⟩
  have g : (ρ ++ [p])[mh.length]? = some p := by rw [← h.len]; simp
  refine ⟨e, ⟨by simp [h.len], ?_, fun n a u e1 e2 => ?_⟩, g⟩
  · rw [List.nodup_append]
    exact ⟨h.nd, by simp, fun a m b mb => by simp at mb; rw [mb]; exact fun q => h.out hp (by rw [← q]; exact m)⟩
  · by_cases hn : n < mh.length
    · rw [List.getElem?_append_left (by rw [h.len]; exact hn)] at e1
      rw [List.getElem?_append_left hn] at e2
      rw [upd_ne (fun q : a = p => h.out hp (by rw [← q]; exact List.mem_of_getElem? e1))]
      exact (h.ob n a u e1 e2).mono e
    · have hl := (List.getElem?_eq_some_iff.mp e2).1
      rw [List.length_append, List.length_singleton] at hl
      have hn : n = mh.length := by omega
      subst hn
      rw [g] at e1
      cases e1
      simp at e2
      subst e2
      rw [upd_same]
      exact r.mono e
/-- one of our own changes -/
theorem RH.put (h : RH K ρ mh H) {n : Nat} {a : Addr} {ho : HO} {o : MO} (e1 : ρ[n]? = some a) (r : RO K ρ H o (some ho)) :
    Ext ρ H ρ (upd H a ho) ∧ RH K ρ (mh.set n o) (upd H a ho) := by
  have ma := List.mem_of_getElem? e1
  have e : Ext ρ H ρ (upd H a ho) := ⟨⟨[], by simp, by simp⟩, fun b u q n => by rw [upd_ne fun z => n (by rw [z]; exact ma)]; exact q⟩
  refine ⟨e, ⟨by simp [h.len], h.nd, fun m b u q1 q2 => ?_⟩⟩
  by_cases hm : n = m
  · subst hm
    rw [e1] at q1; cases q1
    have hl : n < mh.length := by rw [← h.len]; exact (List.getElem?_eq_some_iff.mp e1).1
    rw [List.getElem?_set_self hl] at q2
    cases q2
    rw [upd_same]
    exact r.mono e
  · rw [List.getElem?_set_ne hm] at q2
    have hb : b ≠ a := fun z => by
      subst z
      obtain ⟨h1, e1'⟩ := List.getElem?_eq_some_iff.mp e1
      obtain ⟨h2, e2'⟩ := List.getElem?_eq_some_iff.mp q1
      exact hm ((List.getElem_inj h.nd).mp (e1'.trans e2'.symm))
    rw [upd_ne hb]
    exact (h.ob m b u q1 q2).mono e
/-- the slots -/
structure RSt (K : Tx) (ρ : List Addr) (H : Hp) (env : Env') (σ : St) : Prop where
  len : env.length = σ.length
  at_ : ∀ (i : Nat) (m : MV), env[i]? = some (some m) → ∃ v, σ[i]? = some (some v) ∧ RV K ρ H m v
theorem RSt.im {env : Env'} {σ : St} (e : Ims ρ H ρ' H') (h : RSt K ρ H env σ) : RSt K ρ' H' env σ :=
  ⟨h.len, fun i m q => let ⟨v, e1, r⟩ := h.at_ i m q; ⟨v, e1, r.im e⟩⟩
theorem RSt.mono {env : Env'} {σ : St} (e : Ext ρ H ρ' H') (h : RSt K ρ H env σ) : RSt K ρ' H' env σ := h.im e.im
/-- a list that is none of ours (a comprehension's own, while it grows) changes -/
theorem Ims.grow {D : Addr} {vs ws : List V} (h : H D = some (.lst vs)) : Ims ρ H ρ (upd H D (.lst ws)) :=
  ⟨fun _ _ m => m, fun a us r n => ⟨by rw [upd_ne (fun z : a = D => by rw [z, h] at r; cases r)]; exact r, n⟩, fun a o u r n => ⟨by rw [upd_ne (fun z : a = D => by rw [z, h] at r; cases r)]; exact r, n⟩⟩
theorem RH.grow {D : Addr} {vs ws : List V} (rh : RH K ρ mh H) (h : H D = some (.lst vs)) (n : D ∉ ρ) : RH K ρ mh (upd H D (.lst ws)) :=
  ⟨rh.len, rh.nd, fun i a o e1 e2 => by
    rw [upd_ne (fun z : a = D => n (by rw [← z]; exact List.mem_of_getElem? e1))]
    exact (rh.ob i a o e1 e2).im (Ims.grow h)⟩
theorem RSt.set {env : Env'} {σ : St} {m : MV} {v : V} (h : RSt K ρ H env σ) (i : Nat) (r : RV K ρ H m v) : RSt K ρ H (env.set i (some m)) (σ.set i (some v)) := by
  refine ⟨by simp [h.len], fun j n q => ?_⟩
  by_cases hj : i = j
  · subst hj
    have hl : i < (env.set i (some m)).length := (List.getElem?_eq_some_iff.mp q).1
    rw [List.length_set] at hl
    rw [List.getElem?_set_self hl] at q
    cases q
    exact ⟨v, by rw [List.getElem?_set_self (by rw [← h.len]; exact hl)], r⟩
  · rw [List.getElem?_set_ne hj] at q ⊢
    exact h.at_ j n q
end
end Vf
end L2
end
section
/-! VB: what is wanted of an own result; readings by own denotations. -/
namespace L2
open PySem PySem.Spec PyProof.Rows
/-! ### weakening of readings -/
theorem PE.imp {X : Cx} {e : Expr} {t t' : TE} (h : PE X e t) (i : ∀ σ H Q, t' σ H Q → t σ H Q) : PE X e t' := ⟨fun pins s σ H Q I q => h.run pins s σ H Q I (i σ H Q q)⟩
theorem PT.imp {X : Cx} {e : Expr} {t t' : TT} (h : PT X e t) (i : ∀ σ H Q, t' σ H Q → t σ H Q) : PT X e t' := ⟨fun pins s σ H Q I q => h.run pins s σ H Q I (i σ H Q q)⟩
theorem PW.imp {X : Cx} {e : Expr} {t t' : TT} (h : PW X e t) (i : ∀ σ H Q, t' σ H Q → t σ H Q) : PW X e t' := ⟨fun wh pins s σ H Q I q => h.run wh pins s σ H Q I (i σ H Q q)⟩
theorem PA.imp {X : Cx} {e : List Expr} {t t' : TA} (h : PA X e t) (i : ∀ σ H Q, t' σ H Q → t σ H Q) : PA X e t' := ⟨fun pos pins s σ H Q I q => h.run pos pins s σ H Q I (i σ H Q q)⟩
theorem PS.imp {X : Cx} {st : Stmt} {t t' : TS} (h : PS X st t) (i : ∀ D σ H, t' D σ H → t D σ H) : PS X st t' := ⟨fun pins s σ H D I q => h.run pins s σ H D I (i D σ H q)⟩
theorem PSs.imp {X : Cx} {st : List Stmt} {t t' : TS} (h : PSs X st t) (i : ∀ D σ H, t' D σ H → t D σ H) : PSs X st t' := ⟨fun pins s σ H D I q => h.run pins s σ H D I (i D σ H q)⟩
namespace Vf
open PySem PySem.Spec PyProof.Rows
section
variable (T : Tx)
def RFs (ρ : List Addr) (H : Hp) : List (Str × MV) → List (Str × V) → Prop
  | [], l => l = []
  | p :: ps, l => ∃ v r, l = (p.1, v) :: r ∧ RV T ρ H p.2 v ∧ RFs ρ H ps r
/-- an exception in the air -/
def RX (ρ : List Addr) (H : Hp) (e : MX) (cls : Value) (dd : Option Addr) : Prop :=
  cls = .ref (T.ca e.c) ∧ match dd with
    | none => e.fs = []
    | some d => ∃ l, H d = some (.xd l) ∧ RFs T ρ H e.fs l
/-- what is wanted of a result, seen from ρ, H -/
def Want {α β : Type} (rel : List Addr → Hp → α → β → Prop) (ρ : List Addr) (H : Hp) (W : XK) (r : Rs α) (Q : β → Hp → Prop) : Prop :=
  match r with
  | .ok a mh => ∀ b ρ' H', Ext ρ H ρ' H' → RH T ρ' mh H' → rel ρ' H' a b → Q b H'
  | .exc e mh => ∀ cls dd ρ' H', Ext ρ H ρ' H' → RH T ρ' mh H' → RX T ρ' H' e cls dd → W cls dd H'
  | .stuck => False
/-- a reading by a denotation -/
def Tof {α β : Type} (rel : List Addr → Hp → α → β → Prop) (W : WX) (rt : Rt) (d : Rt → Env' → MH → Rs α) (σ : St) (H : Hp) (Q : β → Hp → Prop) : Prop :=
  ∃ ρ env mh, RH T ρ mh H ∧ RSt T ρ H env σ ∧ Want T rel ρ H (fun c dd H' => W c dd σ H') (d rt env mh) Q
abbrev TEof (W : WX) (rt : Rt) (d : DE) : TE := Tof T (RV T) W rt d
abbrev TTof (W : WX) (rt : Rt) (d : DB) : TT := Tof T (fun _ _ a b => a = b) W rt d
abbrev TAof (W : WX) (rt : Rt) (d : DL) : TA := Tof T (RVs T) W rt d
end
/-- one behind another -/
def bnd {α γ : Type} (d : Rt → Env' → MH → Rs α) (f : α → Rt → Env' → MH → Rs γ) : Rt → Env' → MH → Rs γ := fun rt env mh =>
  match d rt env mh with
  | .ok a mh' => f a rt env mh'
  | .exc e mh' => .exc e mh'
  | .stuck => .stuck
section
variable {T : Tx} {α β γ δ : Type} {ρ ρ' : List Addr} {H H' : Hp} {W : XK} {rt : Rt}
theorem Want.from {rel : List Addr → Hp → α → β → Prop} {r : Rs α} {Q : β → Hp → Prop} (e : Ext ρ H ρ' H') (l : ∀ a ∈ ρ', H' a ≠ none) (w : Want T rel ρ H W r Q) : Want T rel ρ' H' W r Q := by
  cases r with
  | ok a mh => exact fun b ρ2 H2 e2 r2 q => w b ρ2 H2 (e.trans e2 l) r2 q
  | exc x mh => exact fun c d ρ2 H2 e2 r2 q => w c d ρ2 H2 (e.trans e2 l) r2 q
  | stuck => exact w
theorem Want.bind {rel : List Addr → Hp → α → β → Prop} {rel' : List Addr → Hp → γ → δ → Prop} {W : WX} {σ : St} {env : Env'} {mh : MH} {Q : δ → Hp → Prop} {d : Rt → Env' → MH → Rs α} {f : α → Rt → Env' → MH → Rs γ}
    (rh : RH T ρ mh H) (rs : RSt T ρ H env σ) (w : Want T rel' ρ H (fun c dd H' => W c dd σ H') (bnd d f rt env mh) Q) :
    Tof T rel W rt d σ H fun b H1 => ∃ ρ1 mh1 a, Ext ρ H ρ1 H1 ∧ RH T ρ1 mh1 H1 ∧ RSt T ρ1 H1 env σ ∧ rel ρ1 H1 a b ∧ Want T rel' ρ1 H1 (fun c dd H' => W c dd σ H') (f a rt env mh1) Q := by
  refine ⟨ρ, env, mh, rh, rs, ?_⟩
  unfold bnd at w
  cases e : d rt env mh with
  | ok a mh' =>
    rw [e] at w
    exact fun b ρ1 H1 e1 r1 q => ⟨ρ1, mh', a, e1, r1, rs.mono e1, q, w.from e1 r1.ne⟩
  | exc x mh' =>
    rw [e] at w
    exact w
  | stuck =>
    rw [e] at w
    exact w
/-- the end -/
theorem Want.done {rel : List Addr → Hp → α → β → Prop} {Q : β → Hp → Prop} {a : α} {mh : MH} {b : β} (w : Want T rel ρ H W (.ok a mh) Q) (e : Ext ρ H ρ' H') (rh : RH T ρ' mh H') (r : rel ρ' H' a b) : Q b H' := w b ρ' H' e rh r
end
/-! ### primitives -/
abbrev P1 := MV → MH → Option (MV × MH)
abbrev P2 := MV → MV → MH → Option (MV × MH)
abbrev PN := List MV → MH → Option (MV × MH)
def lft (r : Option (MV × MH)) : Rs MV := match r with
  | some (v, mh) => .ok v mh
  | none => .stuck
def op1D (p : P1) (d : DE) : DE := bnd d fun a _ _ mh => lft (p a mh)
def op2D (p : P2) (da db : DE) : DE := bnd da fun a => bnd db fun b _ _ mh => lft (p a b mh)
def opND (p : PN) (d : DL) : DE := bnd d fun as _ _ mh => lft (p as mh)
def nilD : DL := fun _ _ mh => .ok [] mh
def consD (d : DE) (t : DL) : DL := bnd d fun a => bnd t fun as _ _ mh => .ok (a :: as) mh
/-- the pure ones -/
def pu1 (f : MV → Option MV) : P1 := fun a mh => (f a).map fun v => (v, mh)
def pu2 (f : MV → MV → Option MV) : P2 := fun a b mh => (f a b).map fun v => (v, mh)
section
variable (T : Tx)
/-- what follows a primitive -/
def Aft (ρ : List Addr) (H : Hp) (m : MV) (mh : MH) (Q : VK) : Prop := ∀ v ρ' H', Ext ρ H ρ' H' → RH T ρ' mh H' → RV T ρ' H' m v → Q v H'
def R1of (p : P1) : V → Hp → VK → Prop := fun x H Q => ∃ ρ a mh m mh', RH T ρ mh H ∧ RV T ρ H a x ∧ p a mh = some (m, mh') ∧ Aft T ρ H m mh' Q
def R2of (p : P2) : R2 := fun x y H Q => ∃ ρ a b mh m mh', RH T ρ mh H ∧ RV T ρ H a x ∧ RV T ρ H b y ∧ p a b mh = some (m, mh') ∧ Aft T ρ H m mh' Q
def RNof (p : PN) : List V → Hp → VK → Prop := fun xs H Q => ∃ ρ as mh m mh', RH T ρ mh H ∧ RVs T ρ H as xs ∧ p as mh = some (m, mh') ∧ Aft T ρ H m mh' Q
end
section
variable {T : Tx} {X : Cx} {W : WX} {rt : Rt} {ρ : List Addr} {H : Hp} {Q : VK}
theorem lft_want {W : XK} {r : Option (MV × MH)} (w : Want T (RV T) ρ H W (lft r) Q) : ∃ m mh', r = some (m, mh') ∧ Aft T ρ H m mh' Q := by
  cases r with
  | none => exact w.elim
  | some p => exact ⟨p.1, p.2, rfl, fun v ρ' H' e r q => w v ρ' H' e r q⟩
theorem Aft.pure {m : MV} {mh : MH} {v : V} (k : Aft T ρ H m mh Q) (rh : RH T ρ mh H) (r : RV T ρ H m v) : Q v H := k v ρ H .refl rh r
theorem Tof.mono {α β : Type} {rel : List Addr → Hp → α → β → Prop} {d : Rt → Env' → MH → Rs α} {σ : St} {Q Q' : β → Hp → Prop} (h : Tof T rel W rt d σ H Q) (k : ∀ b H', Q b H' → Q' b H') : Tof T rel W rt d σ H Q' := by
  obtain ⟨ρ, env, mh, rh, rs, w⟩ := h
  refine ⟨ρ, env, mh, rh, rs, ?_⟩
  cases e : d rt env mh with
  | ok a mh' => rw [e] at w; exact fun b ρ1 H1 e1 r1 q => k _ _ (w b ρ1 H1 e1 r1 q)
  | exc x mh' => rw [e] at w; exact w
  | stuck => rw [e] at w; exact w
end
section
variable {T : Tx} {X : Cx} {W : WX} {rt : Rt} {a b : Expr} {es : List Expr} {pos : Pos} {da db : DE} {dl : DL}
theorem se_op2 {op : Operator} {p : P2} (ho : OpR X (binaryOp op) (R2of T p)) (ha : PE X a (TEof T W rt da)) (hb : PE X b (TEof T W rt db)) : PE X (.BinOp a op b pos) (TEof T W rt (op2D p da db)) :=
  (pe_op ho ha hb).imp fun σ H Q ⟨ρ, env, mh, rh, rs, w⟩ => (Want.bind rh rs w).mono fun x H1 ⟨ρ1, mh1, a, e1, rh1, rs1, ra, w1⟩ => (Want.bind rh1 rs1 w1).mono fun y H2 ⟨ρ2, mh2, b, e2, rh2, rs2, rb, w2⟩ => by
    obtain ⟨m, mh3, hp, k⟩ := lft_want w2
    exact ⟨ρ2, a, b, mh2, m, mh3, rh2, ra.mono e2, rb, hp, k⟩
theorem se_cmp {op : CmpOp} {p : P2} (ho : OpR X (compareOp op) (R2of T p)) (ha : PE X a (TEof T W rt da)) (hb : PE X b (TEof T W rt db)) (h1 : behindInMarks op b = false) : PE X (.Compare a [op] [b] pos) (TEof T W rt (op2D p da db)) :=
  (pe_cmpR ho ha hb h1).imp fun σ H Q ⟨ρ, env, mh, rh, rs, w⟩ => (Want.bind rh rs w).mono fun x H1 ⟨ρ1, mh1, a, e1, rh1, rs1, ra, w1⟩ => (Want.bind rh1 rs1 w1).mono fun y H2 ⟨ρ2, mh2, b, e2, rh2, rs2, rb, w2⟩ => by
    obtain ⟨m, mh3, hp, k⟩ := lft_want w2
    exact ⟨ρ2, a, b, mh2, m, mh3, rh2, ra.mono e2, rb, hp, k⟩
theorem se_un {op : UnaryOp} {p : P1} (ho : UnR X (unaryOp op) (R1of T p)) (ha : PE X a (TEof T W rt da)) : PE X (.UnaryOp op a pos) (TEof T W rt (op1D p da)) :=
  (pe_un ho ha).imp fun σ H Q ⟨ρ, env, mh, rh, rs, w⟩ => (Want.bind rh rs w).mono fun x H1 ⟨ρ1, mh1, a, e1, rh1, rs1, ra, w1⟩ => by
    obtain ⟨m, mh3, hp, k⟩ := lft_want w1
    exact ⟨ρ1, a, mh1, m, mh3, rh1, ra, hp, k⟩
theorem se_ix {p : P2} (ho : IxR X (R2of T p)) (ha : PE X a (TEof T W rt da)) (hb : PE X b (TEof T W rt db)) (hs : PlainIx b) : PE X (.Subscript a b pos) (TEof T W rt (op2D p da db)) :=
  (pe_ix ho ha hb hs).imp fun σ H Q ⟨ρ, env, mh, rh, rs, w⟩ => (Want.bind rh rs w).mono fun x H1 ⟨ρ1, mh1, a, e1, rh1, rs1, ra, w1⟩ => (Want.bind rh1 rs1 w1).mono fun y H2 ⟨ρ2, mh2, b, e2, rh2, rs2, rb, w2⟩ => by
    obtain ⟨m, mh3, hp, k⟩ := lft_want w2
    exact ⟨ρ2, a, b, mh2, m, mh3, rh2, ra.mono e2, rb, hp, k⟩
theorem sa_nil : PA X [] (TAof T W rt nilD) := pa_nil.imp fun σ H Q ⟨ρ, env, mh, rh, rs, w⟩ => w [] ρ H .refl rh .nil
theorem sa_cons {e : Expr} (ha : PE X e (TEof T W rt da)) (hr : PA X es (TAof T W rt dl)) (hs : starEach (e :: es) X.env = (false, eval e X.env) :: starEach es X.env) : PA X (e :: es) (TAof T W rt (consD da dl)) :=
  (pa_cons ha hr hs).imp fun σ H Q ⟨ρ, env, mh, rh, rs, w⟩ => (Want.bind rh rs w).mono fun x H1 ⟨ρ1, mh1, a, e1, rh1, rs1, ra, w1⟩ => (Want.bind (rel := RVs T) rh1 rs1 w1).mono fun y H2 ⟨ρ2, mh2, b, e2, rh2, rs2, rb, w2⟩ =>
    w2 _ ρ2 H2 .refl rh2 (.cons (ra.mono e2) rb)
end
end Vf
end L2
end
section
/-! VC: primitives. -/
namespace L2
namespace Vf
open PySem PySem.Spec PyProof.Rows
abbrev lim : Nat := 16777216
theorem lim_eq : lim = sizeLine := sizeLine_eq.symm
def beqL : List Nat → List Nat → Bool
  | [], [] => true
  | x :: xs, y :: ys => Nat.beq x y && beqL xs ys
  | _, _ => false
theorem beqL_eq : ∀ {a b : List Nat}, beqL a b = decide (a = b)
  | [], [] => rfl
  | [], _ :: _ => rfl
  | _ :: _, [] => rfl
  | x :: xs, y :: ys => by
    unfold beqL
    rw [beqL_eq (a := xs) (b := ys), Bool.eq_iff_iff]
    simp
def memL (c : Nat) : List Nat → Bool
  | [] => false
  | x :: xs => Nat.beq c x || memL c xs
theorem memL_eq {c : Nat} : ∀ {z : List Nat}, memL c z = decide (c ∈ z)
  | [] => by simp [memL]
  | x :: xs => by
    unfold memL
    rw [memL_eq (z := xs), Bool.eq_iff_iff]
    simp
theorem S_app (a b : List Nat) : S a ++ S b = S (a ++ b) := by
  show (⟨_⟩ : Str) = _
  unfold S
  simp
/-! ### data -/
def mapO {α β : Type} (f : α → Option β) : List α → Option (List β)
  | [] => some []
  | x :: xs => match f x with
    | none => none
    | some y => match mapO f xs with
      | none => none
      | some ys => some (y :: ys)
/-- a value as data, as it stands now -/
def fz (mh : MH) : Nat → MV → Option PyData
  | _, .non => some .none
  | _, .bl b => some (.bool b)
  | _, .int i => some (.int i)
  | _, .str cs => some (.str (S cs))
  | n + 1, .tup xs => match mapO (fz mh n) xs with
    | some ds => some (.tuple ds)
    | none => none
  | n + 1, .fl xs => match mapO (fz mh n) xs with
    | some ds => some (.list ds)
    | none => none
  | n + 1, .loc k => match mh[k]? with
    | some (.lst xs) => match mapO (fz mh n) xs with
      | some ds => some (.list ds)
      | none => none
    | _ => none
  | _, _ => none
section
variable {T : Tx} {ρ : List Addr} {H : Hp} {mh : MH}
theorem mapO_dp {n : Nat} (ih : ∀ {m : MV} {v : V} {d : PyData}, RV T ρ H m v → fz mh n m = some d → Dp T.K H v d) : ∀ {ms : List MV} {vs : List V} {ds : List PyData}, RVs T ρ H ms vs → mapO (fz mh n) ms = some ds → DpAll T.K H vs ds
  | [], vs, ds, h, e => by
    unfold RVs at h; subst h
    cases e
    exact .nil
  | x :: xs, vs, ds, h, e => by
    unfold RVs at h
    obtain ⟨v, r, rfl, h1, h2⟩ := h
    unfold mapO at e
    split at e
    · cases e
    · rename_i y ey
      split at e
      · cases e
      · rename_i ys eys
        cases e
        exact .cons (ih h1 ey) (mapO_dp ih h2 eys)
theorem fz_dp (rh : RH T ρ mh H) : ∀ {n : Nat} {m : MV} {v : V} {d : PyData}, RV T ρ H m v → fz mh n m = some d → Dp T.K H v d := by
  intro n
  induction n with
  | zero =>
    intro m v d h e
    cases m <;> unfold fz at e <;> first | cases e | skip
    all_goals (unfold RV at h; subst h; constructor)
  | succ n ih =>
    intro m v d h e
    cases m with
    | tup xs =>
      unfold fz at e
      split at e
      · rename_i ds eds
        cases e
        unfold RV at h
        obtain ⟨a, vs, rfl, h1, h2⟩ := h
        exact .tup h1.sq (mapO_dp ih h2 eds)
      · cases e
    | fl xs =>
      unfold fz at e
      split at e
      · rename_i ds eds
        cases e
        unfold RV at h
        obtain ⟨a, vs, rfl, h1, h2⟩ := h
        exact .lst h1.sq (mapO_dp ih h2 eds)
      · cases e
    | loc k =>
      unfold fz at e
      split at e
      · rename_i xs ek
        split at e
        · rename_i ds eds
          cases e
          unfold RV at h
          obtain ⟨a, rfl, h1⟩ := h
          obtain ⟨vs, e2, h2⟩ := rh.ob k a _ h1 ek
          exact .lst (SqL.of e2) (mapO_dp ih h2 eds)
        · cases e
      · cases e
    | non => unfold fz at e; cases e; unfold RV at h; subst h; constructor
    | bl b => unfold fz at e; cases e; unfold RV at h; subst h; constructor
    | int b => unfold fz at e; cases e; unfold RV at h; subst h; constructor
    | str b => unfold fz at e; cases e; unfold RV at h; subst h; constructor
    | ty b => unfold fz at e; cases e
    | cls b => unfold fz at e; cases e
    | wd b ks vs => unfold fz at e; cases e
    | pr xs => unfold fz at e; cases e
end
/-! ### operators -/
def addM : P2
  | .int i, .int j, mh => some (.int (i + j), mh)
  | .str a, .str b, mh => if Nat.ble (a.length + b.length) lim then some (.str (a ++ b), mh) else none
  | .tup xs, .tup ys, mh => if Nat.ble (xs.length + ys.length) lim then some (.tup (xs ++ ys), mh) else none
  | .loc n, .loc m, mh => match mh[n]?, mh[m]? with
    | some (.lst xs), some (.lst ys) => if Nat.ble (xs.length + ys.length) lim then some (.loc mh.length, mh ++ [.lst (xs ++ ys)]) else none
    | _, _ => none
  | _, _, _ => none
def subM : P2
  | .int i, .int j, mh => some (.int (i - j), mh)
  | _, _, _ => none
def mulOk (i j : Int) : Bool := Nat.blt i.natAbs 18446744073709551616 || Nat.blt j.natAbs 18446744073709551616
def repL {α : Type} (xs : List α) (k : Nat) : List α := (List.replicate k xs).flatten
def mulM : P2
  | .int i, .int j, mh => if mulOk i j then some (.int (i * j), mh) else none
  | .str a, .int j, mh => if decide (1 ≤ j) && Nat.ble j.toNat 1000000 && Nat.ble (a.length * j.toNat) lim then some (.str (repL a j.toNat), mh) else none
  | .loc n, .int j, mh => match mh[n]? with
    | some (.lst xs) => if Nat.blt j.natAbs 9223372036854775808 && Nat.ble (xs.length * j.toNat) lim then some (.loc mh.length, mh ++ [.lst (repL xs j.toNat)]) else none
    | _ => none
  | _, _, _ => none
def fdivM : P2
  | .int i, .int j, mh => if decide (0 < j) && decide (j < 1073741824) then some (.int (i / j), mh) else none
  | _, _, _ => none
def modM : P2
  | .int i, .int j, mh => if decide (0 < j) then some (.int (i % j), mh) else none
  | _, _, _ => none
def powM : P2
  | .int i, .int j, mh => if decide (0 ≤ j) && decide (j ≤ 1000000) && Nat.blt i.natAbs 18446744073709551616 then some (.int (i ^ j.toNat), mh) else none
  | _, _, _ => none
def negM : P1
  | .int i, mh => some (.int (-i), mh)
  | _, _ => none
section
variable {T : Tx} {X : Cx}
theorem RV.int {ρ : List Addr} {H : Hp} {i : Int} : RV T ρ H (.int i) (.int i) := by unfold RV; rfl
theorem RV.bl {ρ : List Addr} {H : Hp} {i : Bool} : RV T ρ H (.bl i) (.bl i) := by unfold RV; rfl
theorem RV.non {ρ : List Addr} {H : Hp} : RV T ρ H .non .non := by unfold RV; rfl
theorem RV.str {ρ : List Addr} {H : Hp} {i : List Nat} : RV T ρ H (.str i) (.str (S i)) := by unfold RV; rfl
theorem Aft.tup {ρ : List Addr} {H : Hp} {Q : VK} {mh : MH} {ms : List MV} {vs : List V} (k : Aft T ρ H (.tup ms) mh Q) (rh : RH T ρ mh H) (r : RVs T ρ H ms vs) : NewT H vs Q := fun p o hp ho => by
  obtain ⟨e, rh'⟩ := rh.new (o := .frz o (.tup vs)) hp
  refine k _ ρ _ e rh' ?_
  unfold RV
  exact ⟨p, vs, rfl, .inl ⟨⟨o, upd_same, ho⟩, rh.out hp⟩, r.mono e⟩
theorem Aft.pr {ρ : List Addr} {H : Hp} {Q : VK} {mh : MH} {ms : List MV} {vs : List V} {p : Addr} (k : Aft T ρ H (.pr ms) mh Q) (rh : RH T ρ mh H) (r : RVs T ρ H ms vs) (hp : H p = none) : Q (.ref p) (upd H p (.tup vs)) := by
  obtain ⟨e, rh'⟩ := rh.new (o := .tup vs) hp
  refine k _ ρ _ e rh' ?_
  unfold RV
  exact ⟨p, vs, rfl, ⟨upd_same, rh.out hp⟩, r.mono e⟩
theorem Aft.lst {ρ : List Addr} {H : Hp} {Q : VK} {mh : MH} {ms : List MV} {vs : List V} {p : Addr} (k : Aft T ρ H (.loc mh.length) (mh ++ [.lst ms]) Q) (rh : RH T ρ mh H) (r : RVs T ρ H ms vs) (hp : H p = none) : Q (.ref p) (upd H p (.lst vs)) := by
  obtain ⟨e, rh', g⟩ := rh.push (ho := .lst vs) (o := .lst ms) hp ⟨vs, rfl, r⟩
  refine k _ _ _ e rh' ?_
  unfold RV
  exact ⟨p, rfl, g⟩
theorem loc_lst {ρ : List Addr} {H : Hp} {mh : MH} {n : Nat} {x : V} {xs : List MV} (rh : RH T ρ mh H) (r : RV T ρ H (.loc n) x) (e : mh[n]? = some (.lst xs)) : ∃ a vs, x = .ref a ∧ ρ[n]? = some a ∧ H a = some (.lst vs) ∧ RVs T ρ H xs vs := by
  unfold RV at r
  obtain ⟨a, rfl, h1⟩ := r
  obtain ⟨vs, e2, h2⟩ := rh.ob n a _ h1 e
  exact ⟨a, vs, rfl, h1, e2, h2⟩
theorem add_ok (hK : X.K = T.K) : OpR X (binaryOp .Add) (R2of T addM) := by
  intro pins s σ H x y v u Q I rx ry ⟨ρ, a, b, mh, m, mh', rh, ra, rb, hp, k⟩
  unfold addM at hp
  split at hp
  · cases hp; unfold RV at ra rb; subst ra rb
    exact op_add pins s σ H _ _ v u Q I rx ry ⟨_, _, rfl, rfl, k.pure rh .int⟩
  · split at hp
    · rename_i a b hz
      cases hp; unfold RV at ra rb; subst ra rb
      refine op_add_str pins s σ H _ _ v u Q I rx ry ⟨_, _, rfl, rfl, ?_, ?_⟩
      · rw [S_len, S_len, ← lim_eq]; exact Nat.le_of_ble_eq_true hz
      · rw [S_app]; exact k.pure rh .str
    · cases hp
  · split at hp
    · rename_i xs ys hz
      cases hp; unfold RV at ra rb
      obtain ⟨p, vs, rfl, t1, r1⟩ := ra
      obtain ⟨q, us, rfl, t2, r2⟩ := rb
      refine op_catF pins s σ H _ _ v u Q I rx ry ⟨p, q, vs, us, rfl, rfl, by rw [hK]; exact t1.sq, by rw [hK]; exact t2.sq, ?_, fun e => ?_, fun _ e => ?_, fun _ _ => ?_⟩
      · rw [r1.len, r2.len, ← lim_eq]; exact Nat.le_of_ble_eq_true hz
      · subst e
        have e1 : xs = [] := List.eq_nil_of_length_eq_zero (by rw [← r1.len]; rfl)
        subst e1
        refine k.pure rh ?_
        unfold RV; exact ⟨q, us, rfl, t2, by simpa using r2⟩
      · subst e
        have e1 : ys = [] := List.eq_nil_of_length_eq_zero (by rw [← r2.len]; rfl)
        subst e1
        refine k.pure rh ?_
        unfold RV; exact ⟨p, vs, rfl, t1, by simpa using r1⟩
      · exact k.tup rh (r1.append r2)
    · cases hp
  · split at hp
    · split at hp
      · rename_i hz
        cases hp
        obtain ⟨p, vs, rfl, g1, h1, r1⟩ := loc_lst rh ra (by assumption)
        obtain ⟨q, us, rfl, g2, h2, r2⟩ := loc_lst rh rb (by assumption)
        refine op_cat pins s σ H _ _ v u Q I rx ry ⟨p, q, vs, us, rfl, rfl, h1, h2, ?_, fun z hz => k.lst rh (r1.append r2) hz⟩
        rw [r1.len, r2.len, ← lim_eq]; exact Nat.le_of_ble_eq_true hz
      · cases hp
    · cases hp
  · cases hp
theorem sub_ok : OpR X (binaryOp .Sub) (R2of T subM) := by
  intro pins s σ H x y v u Q I rx ry ⟨ρ, a, b, mh, m, mh', rh, ra, rb, hp, k⟩
  unfold subM at hp
  split at hp
  · cases hp; unfold RV at ra rb; subst ra rb
    exact op_sub pins s σ H _ _ v u Q I rx ry ⟨_, _, rfl, rfl, k.pure rh .int⟩
  · cases hp
theorem fdiv_ok : OpR X (binaryOp .FloorDiv) (R2of T fdivM) := by
  intro pins s σ H x y v u Q I rx ry ⟨ρ, a, b, mh, m, mh', rh, ra, rb, hp, k⟩
  unfold fdivM at hp
  split at hp
  · split at hp
    · rename_i hc
      cases hp; unfold RV at ra rb; subst ra rb
      have hc := Bool.and_eq_true_iff.mp hc
      exact op_fdiv pins s σ H _ _ v u Q I rx ry ⟨_, _, rfl, rfl, ⟨of_decide_eq_true hc.1, of_decide_eq_true hc.2⟩, k.pure rh .int⟩
    · cases hp
  · cases hp
theorem mod_ok : OpR X (binaryOp .Mod) (R2of T modM) := by
  intro pins s σ H x y v u Q I rx ry ⟨ρ, a, b, mh, m, mh', rh, ra, rb, hp, k⟩
  unfold modM at hp
  split at hp
  · split at hp
    · rename_i hc
      cases hp; unfold RV at ra rb; subst ra rb
      exact op_mod pins s σ H _ _ v u Q I rx ry ⟨_, _, rfl, rfl, of_decide_eq_true hc, k.pure rh .int⟩
    · cases hp
  · cases hp
theorem natAbs64 {i : Int} (h : Nat.blt i.natAbs 18446744073709551616 = true) : -(2 ^ 64) < i ∧ i < 2 ^ 64 := by
  have h : i.natAbs + 1 ≤ 18446744073709551616 := Nat.le_of_ble_eq_true h
  omega
theorem pow_ok : OpR X (binaryOp .Pow) (R2of T powM) := by
  intro pins s σ H x y v u Q I rx ry ⟨ρ, a, b, mh, m, mh', rh, ra, rb, hp, k⟩
  unfold powM at hp
  split at hp
  · split at hp
    · rename_i hc
      cases hp; unfold RV at ra rb; subst ra rb
      have hc := Bool.and_eq_true_iff.mp hc
      have hd := Bool.and_eq_true_iff.mp hc.1
      have h3 : _ + 1 ≤ 18446744073709551616 := Nat.le_of_ble_eq_true hc.2
      exact op_pow pins s σ H _ _ v u Q I rx ry ⟨_, _, rfl, rfl, ⟨of_decide_eq_true hd.1, of_decide_eq_true hd.2, by omega⟩, k.pure rh .int⟩
    · cases hp
  · cases hp
theorem neg_ok : UnR X (unaryOp .USub) (R1of T negM) := by
  intro pins s σ H x v Q I rx ⟨ρ, a, mh, m, mh', rh, ra, hp, k⟩
  unfold negM at hp
  split at hp
  · cases hp; unfold RV at ra; subst ra
    exact un_neg pins s σ H _ v Q I rx ⟨_, rfl, k.pure rh .int⟩
  · cases hp
theorem repL_len {α : Type} (xs : List α) (k : Nat) : (repL xs k).length = xs.length * k := by
  unfold repL
  induction k with
  | zero => simp
  | succ k ih => simp [List.replicate_succ, ih, Nat.mul_succ, Nat.add_comm]
theorem RVs.rep {ρ : List Addr} {H : Hp} {xs : List MV} {vs : List V} (h : RVs T ρ H xs vs) : ∀ k : Nat, RVs T ρ H (repL xs k) ((List.replicate k vs).flatten)
  | 0 => .nil
  | k + 1 => by
    unfold repL
    rw [List.replicate_succ, List.replicate_succ, List.flatten_cons, List.flatten_cons]
    exact h.append (RVs.rep h k)
theorem fold_rep (a : Array Nat) : ∀ (k : Nat) (acc : Array Nat), (List.replicate k a).foldl (· ++ ·) acc = ⟨acc.toList ++ repL a.toList k⟩
  | 0, acc => by simp [repL]
  | k + 1, acc => by
    rw [List.replicate_succ, List.foldl_cons, fold_rep a k]
    unfold repL
    rw [List.replicate_succ, List.flatten_cons]
    simp
theorem mul_ok : OpR X (binaryOp .Mult) (R2of T mulM) := by
  intro pins s σ H x y v u Q I rx ry ⟨ρ, a, b, mh, m, mh', rh, ra, rb, hp, k⟩
  unfold mulM at hp
  split at hp
  · split at hp
    · rename_i hc
      cases hp; unfold RV at ra rb; subst ra rb
      exact op_mul pins s σ H _ _ v u Q I rx ry ⟨_, _, rfl, rfl, (Bool.or_eq_true_iff.mp hc).imp natAbs64 natAbs64, k.pure rh .int⟩
    · cases hp
  · split at hp
    · rename_i a j hc
      cases hp; unfold RV at ra rb; subst ra rb
      have hc := Bool.and_eq_true_iff.mp hc
      have hd := Bool.and_eq_true_iff.mp hc.1
      have h1 : 1 ≤ j := of_decide_eq_true hd.1
      have h2 := Nat.le_of_ble_eq_true hd.2
      have h3 := Nat.le_of_ble_eq_true hc.2
      obtain ⟨t, rfl⟩ := rx
      obtain ⟨t', rfl⟩ := ry
      have hn : ¬ j < 1 := by omega
      refine PySem.P.mul_str ?_ (fun _ _ => ?_) (fun _ _ => ?_) ?_
      · have e1 : ¬ j < -(2 ^ 63 : Int) := by omega
        have e2 : ¬ j ≥ 2 ^ 63 := by omega
        rw [decide_eq_false e1, decide_eq_false e2]; rfl
      · rw [S_len]
        have h4 : a.length * j.toNat ≤ 16777216 := h3
        have h5 : (a.length : Int) * j ≤ 16777216 := by
          have e5 : (j.toNat : Int) = j := Int.toNat_of_nonneg (by omega)
          rw [← e5]
          have h6 : ((a.length * j.toNat : Nat) : Int) ≤ ((16777216 : Nat) : Int) := Int.ofNat_le.mpr h4
          rw [Int.natCast_mul] at h6
          exact h6
        intro hgt
        have h6 : (2 ^ 63 - 1) / j + 1 ≤ (a.length : Int) := by omega
        have h7 : j * ((2 ^ 63 - 1) / j) + (2 ^ 63 - 1) % j = 2 ^ 63 - 1 := Int.mul_ediv_add_emod _ _
        have h8 := Int.emod_lt_of_pos (2 ^ 63 - 1) (show 0 < j by omega)
        have h9 : ((2 ^ 63 - 1) / j + 1) * j ≤ (a.length : Int) * j := Int.mul_le_mul_of_nonneg_right h6 (by omega)
        rw [Int.add_mul, Int.one_mul, Int.mul_comm] at h9
        omega
      · have : ¬ (S a).length * j.toNat > sizeLine := by rw [S_len, ← lim_eq]; exact Nat.not_lt.mpr h3
        unfold Builtin.Str.tooLong
        first
          | exact decide_eq_false this
          | simpa using this
      · rw [if_neg hn]
        have kk := k.pure rh (RV.str (T := T) (ρ := ρ) (H := H) (i := repL a j.toNat))
        split
        · rename_i he
          rcases Bool.or_eq_true_iff.mp he with e | e
          · have e : j = 1 := by simpa using e
            subst e
            have e2 : repL a (1 : Int).toNat = a := List.append_nil a
            rw [e2] at kk
            exact ⟨.str (S a), H, I, ⟨t, rfl⟩, kk⟩
          · have e : a = [] := by
              have : (S a).length = 0 := by simpa using e
              rw [S_len] at this
              exact List.eq_nil_of_length_eq_zero this
            subst e
            have e2 : repL ([] : List Nat) j.toNat = [] := List.eq_nil_of_length_eq_zero (by rw [repL_len]; simp)
            rw [e2] at kk
            exact ⟨.str (S []), H, I, ⟨t, rfl⟩, kk⟩
        · have e3 : (⟨(List.replicate j.toNat (S a).cps).foldl (· ++ ·) #[]⟩ : Str) = S (repL a j.toNat) := by
            rw [fold_rep]
            simp [S]
          refine ⟨?_, .str (S (repL a j.toNat)), H, I.tok _, ⟨s.toks, by rw [e3]⟩, kk⟩
          rw [e3, S_len, repL_len, ← lim_eq]
          exact h3
    · cases hp
  · split at hp
    · split at hp
      · rename_i hc
        cases hp
        have hc := Bool.and_eq_true_iff.mp hc
        have h1 : _ + 1 ≤ 9223372036854775808 := Nat.le_of_ble_eq_true hc.1
        obtain ⟨p, vs, rfl, g1, hh1, r1⟩ := loc_lst rh ra (by assumption)
        unfold RV at rb; subst rb
        refine op_rep pins s σ H _ _ v u Q I rx ry ⟨p, _, vs, rfl, rfl, hh1, by omega, by omega, ?_, ?_⟩
        · rw [r1.len, ← lim_eq]; exact Nat.le_of_ble_eq_true hc.2
        · intro z hz
          exact k.lst rh (r1.rep _) hz
      · cases hp
    · cases hp
  · cases hp
end
end Vf
end L2
end
section
/-! VD0: dicts: the own heap's, the written ones. -/
namespace L2
namespace Vf
open PySem PySem.Spec PyProof.Rows
def keqM : MV → MV → Bool
  | .int i, .int j => decide (i = j)
  | .str a, .str b => beqL a b
  | _, _ => false
def isKeyM : MV → Bool
  | .int _ => true
  | .str _ => true
  | _ => false
def dfind : List (MV × MV) → MV → Option MV
  | [], _ => none
  | (k, v) :: r, m => if keqM k m then some v else dfind r m
def dany : List (MV × MV) → MV → Bool
  | [], _ => false
  | (k, _) :: r, m => keqM k m || dany r m
def drepl : List (MV × MV) → MV → MV → List (MV × MV)
  | [], _, _ => []
  | (k, v) :: r, m, u => (if keqM k m then (k, u) else (k, v)) :: drepl r m u
def dputM (kvs : List (MV × MV)) (k v : MV) : List (MV × MV) := if dany kvs k then drepl kvs k v else kvs ++ [(k, v)]
def ddrop : List (MV × MV) → MV → List (MV × MV)
  | [], _ => []
  | (k, v) :: r, m => if keqM k m then ddrop r m else (k, v) :: ddrop r m
def dmerge (kvs : List (MV × MV)) : List (MV × MV) → List (MV × MV)
  | [] => kvs
  | (k, v) :: r => dmerge (dputM kvs k v) r
theorem keq_keyM (a b : Key) : keqM (keyM a) (keyM b) = decide (a = b) := by
  cases a with
  | inl i => cases b with
    | inl j => simp [keyM, keqM]
    | inr y => simp [keyM, keqM]
  | inr x => cases b with
    | inl j => simp [keyM, keqM]
    | inr y =>
      simp only [keyM, keqM, beqL_eq]
      rw [Bool.eq_iff_iff, decide_eq_true_iff, decide_eq_true_iff]
      constructor
      · intro h
        rw [show x = y from by rw [← S_eta x, h, S_eta]]
      · intro h
        rw [Sum.inr.inj h]
theorem key_of_is {T : Tx} {ρ : List Addr} {H : Hp} {m : MV} {v : V} (h : isKeyM m = true) (r : RV T ρ H m v) : ∃ k, m = keyM k ∧ v = kV k := by
  cases m with
  | int i => unfold RV at r; exact ⟨.inl i, rfl, r⟩
  | str x => unfold RV at r; exact ⟨.inr (S x), by simp [keyM, S], r⟩
  | _ => cases h
theorem rv_keyM {T : Tx} {ρ : List Addr} {H : Hp} (k : Key) : RV T ρ H (keyM k) (kV k) := by
  cases k with
  | inl i => unfold keyM RV; rfl
  | inr x =>
    unfold keyM RV
    rw [S_eta]; rfl
section
variable {T : Tx} {ρ : List Addr} {H : Hp}
theorem RKs.find {kvs : List (MV × MV)} {l : List (Key × V)} (r : RKs T ρ H kvs l) (k : Key) : (dfind kvs (keyM k) = none ∧ valV l k = none) ∨ ∃ m v, dfind kvs (keyM k) = some m ∧ valV l k = some v ∧ RV T ρ H m v := by
  induction kvs generalizing l with
  | nil => unfold RKs at r; subst r; exact .inl ⟨rfl, rfl⟩
  | cons p ps ih =>
    unfold RKs at r
    obtain ⟨k', v, r', rfl, e, h1, h2⟩ := r
    obtain ⟨p1, p2⟩ := p
    dsimp only at e h1
    subst e
    unfold dfind
    rw [keq_keyM]
    by_cases hk : k' = k
    · rw [if_pos (by simpa using hk)]
      exact .inr ⟨p2, v, rfl, valV_pos hk, h1⟩
    · rw [if_neg (by simpa using hk), valV_neg hk]
      exact ih h2
theorem RKs.dany {kvs : List (MV × MV)} {l : List (Key × V)} (r : RKs T ρ H kvs l) (k : Key) : Vf.dany kvs (keyM k) = l.any fun kv => decide (kv.1 = k) := by
  induction kvs generalizing l with
  | nil => unfold RKs at r; subst r; rfl
  | cons p ps ih =>
    unfold RKs at r
    obtain ⟨k', v, r', rfl, e, h1, h2⟩ := r
    obtain ⟨p1, p2⟩ := p
    dsimp only at e h1
    subst e
    rw [Vf.dany, keq_keyM, List.any_cons, ih h2]
theorem RKs.drepl {kvs : List (MV × MV)} {l : List (Key × V)} (r : RKs T ρ H kvs l) (k : Key) {m : MV} {u : V} (h : RV T ρ H m u) : RKs T ρ H (Vf.drepl kvs (keyM k) m) (l.map fun kv => if kv.1 = k then (kv.1, u) else kv) := by
  induction kvs generalizing l with
  | nil => unfold RKs at r; subst r; exact rfl
  | cons p ps ih =>
    unfold RKs at r
    obtain ⟨k', v, r', rfl, e, h1, h2⟩ := r
    obtain ⟨p1, p2⟩ := p
    dsimp only at e h1
    subst e
    rw [Vf.drepl, keq_keyM, List.map_cons]
    by_cases hk : k' = k
    · rw [if_pos (by simpa using hk), if_pos hk]
      exact ⟨k', u, _, rfl, rfl, h, ih h2⟩
    · rw [if_neg (by simpa using hk), if_neg hk]
      exact ⟨k', v, _, rfl, rfl, h1, ih h2⟩
theorem RKs.snoc {kvs : List (MV × MV)} {l : List (Key × V)} (r : RKs T ρ H kvs l) (k : Key) {m : MV} {u : V} (h : RV T ρ H m u) : RKs T ρ H (kvs ++ [(keyM k, m)]) (l ++ [(k, u)]) := by
  induction kvs generalizing l with
  | nil => unfold RKs at r; subst r; exact ⟨k, u, [], rfl, rfl, h, rfl⟩
  | cons p ps ih =>
    unfold RKs at r
    obtain ⟨k', v, r', rfl, e, h1, h2⟩ := r
    exact ⟨k', v, _, rfl, e, h1, ih h2⟩
theorem RKs.put {kvs : List (MV × MV)} {l : List (Key × V)} (r : RKs T ρ H kvs l) (k : Key) {m : MV} {u : V} (h : RV T ρ H m u) : RKs T ρ H (dputM kvs (keyM k) m) (putK l k u) := by
  unfold dputM putK
  rw [r.dany k]
  by_cases hk : (l.any fun kv => decide (kv.1 = k)) = true
  · rw [if_pos hk, if_pos hk]
    exact r.drepl k h
  · rw [if_neg hk, if_neg hk]
    exact r.snoc k h
theorem RKs.ddrop {kvs : List (MV × MV)} {l : List (Key × V)} (r : RKs T ρ H kvs l) (k : Key) : RKs T ρ H (Vf.ddrop kvs (keyM k)) (dropK l k) := by
  induction kvs generalizing l with
  | nil => unfold RKs at r; subst r; exact rfl
  | cons p ps ih =>
    unfold RKs at r
    obtain ⟨k', v, r', rfl, e, h1, h2⟩ := r
    obtain ⟨p1, p2⟩ := p
    dsimp only at e h1
    subst e
    have ih := ih h2
    unfold dropK at ih
    unfold dropK
    rw [Vf.ddrop, keq_keyM, List.filter_cons]
    by_cases hk : k' = k
    · rw [if_pos (by simpa using hk), if_neg (by simpa using hk)]
      exact ih
    · rw [if_neg (by simpa using hk), if_pos (by simpa using hk)]
      exact ⟨k', v, _, rfl, rfl, h1, ih⟩
theorem RKs.merge {kvs : List (MV × MV)} {l : List (Key × V)} (r : RKs T ρ H kvs l) {more : List (MV × MV)} {rs : List (Key × V)} (q : RKs T ρ H more rs) : RKs T ρ H (dmerge kvs more) (mergeK l rs) := by
  induction more generalizing kvs l rs with
  | nil => unfold RKs at q; subst q; exact r
  | cons p ps ih =>
    unfold RKs at q
    obtain ⟨k', v, r', rfl, e, h1, h2⟩ := q
    obtain ⟨p1, p2⟩ := p
    dsimp only at e h1
    subst e
    exact ih (r.put k' h1) h2
theorem RKs.len {kvs : List (MV × MV)} {l : List (Key × V)} (r : RKs T ρ H kvs l) : l.length = kvs.length := by
  induction kvs generalizing l with
  | nil => unfold RKs at r; subst r; rfl
  | cons p ps ih =>
    unfold RKs at r
    obtain ⟨k', v, r', rfl, e, h1, h2⟩ := r
    rw [List.length_cons, List.length_cons, ih h2]
end
/-- a dict of the written part -/
def WDict (P : Program) (w : World) (K : PySem.W.Frag) (a : Addr) (l : List (Key × V)) : Prop :=
  l.length ≤ sizeLine ∧ (a == sysModules) = false ∧ ∃ vs, KV l vs ∧ ∀ h : Heap, K.In h → h.DictOf (mixKind P w) a vs
def DRd (P : Program) (w : World) (K : PySem.W.Frag) (H : Hp) (a : Addr) (l : List (Key × V)) : Prop := Rd H a (.dK l) ∨ WDict P w K a l
/-- the written dicts are as told -/
def WdOk (T : Tx) (X : Cx) : Prop := ∀ i, T.wks i ≠ [] → (T.wks i).length = (T.wvs i).length ∧ ∃ l, (∀ ρ H, RKs T ρ H ((T.wks i).zip (T.wvs i)) l) ∧ WDict X.prog X.w X.K (T.wa i) l
section
variable {X : Cx} {pins : List (Addr × Obj)} {σ : L2.St} {H : Hp} {s : Shared} {a : Addr} {l : List (Key × V)} {k : Key} {u : Value}
theorem dk_any (I : Inv X pins σ H s) (d : DRd X.prog X.w X.K H a l) : l.length ≤ sizeLine ∧ (a == sysModules) = false ∧ ∃ vs, KV l vs ∧ s.heap.DictOf (mixKind X.prog X.w) a vs := by
  rcases d with d | ⟨h1, h2, vs, h3, h4⟩
  · exact dk_rd I.hok d
  · exact ⟨h1, h2, vs, h3, h4 _ I.kIn⟩
theorem w_in {A : Around} {E : Value → Shared → Prop} {Q : Value → Shared → Prop} (I : Inv X pins σ H s) (d : DRd X.prog X.w X.K H a l) (ry : RelV (kV k) u) (h : ∀ s', Inv X pins σ H s' → Q (.bool (valV l k).isSome) s') :
    wpAny (model X.prog X.w) A (compareOp .In u (.ref a)) Q E s := by
  obtain ⟨z, hd, vs, rel, dd⟩ := dk_any I d
  refine wpAny_in_of (kV_is ry) hd dd.mapOf ?_
  rw [← (rel.val k).isSome_eq]
  exact h _ (I.tok _)
theorem w_notIn {A : Around} {E : Value → Shared → Prop} {Q : Value → Shared → Prop} (I : Inv X pins σ H s) (d : DRd X.prog X.w X.K H a l) (ry : RelV (kV k) u) (h : ∀ s', Inv X pins σ H s' → Q (.bool (!(valV l k).isSome)) s') :
    wpAny (model X.prog X.w) A (compareOp .NotIn u (.ref a)) Q E s := by
  obtain ⟨z, hd, vs, rel, dd⟩ := dk_any I d
  refine wpAny_notIn_of (kV_is ry) hd dd.mapOf ?_
  rw [← (rel.val k).isSome_eq]
  exact h _ (I.tok _)
theorem w_get {A : Around} {E : Value → Shared → Prop} {v : V} {Q : Value → Shared → Prop} (I : Inv X pins σ H s) (d : DRd X.prog X.w X.K H a l) (hv : valV l k = some v) (ry : RelV (kV k) u) (h : ∀ w' s', Inv X pins σ H s' → RelV v w' → Q w' s') :
    wpAny (model X.prog X.w) A (getItem (.ref a) u) Q E s := by
  obtain ⟨z, hd, vs, rel, dd⟩ := dk_any I d
  obtain ⟨w', hw, rw'⟩ := RelO.some_of (v := v) (o := valueAt vs k) (by rw [← hv]; exact rel.val k)
  exact wpAny_getItem_of (kV_is ry) dd.mapOf hw (h w' _ (I.tok _) rw')
theorem w_len {A : Around} {E : Value → Shared → Prop} {Q : Value → Shared → Prop} (I : Inv X pins σ H s) (d : DRd X.prog X.w X.K H a l) (h : ∀ t s', Inv X pins σ H s' → Q (.int l.length t) s') : wpAny (model X.prog X.w) A (call (.builtin "len") [.ref a]) Q E s := by
  obtain ⟨z, hd, vs, rel, dd⟩ := dk_any I d
  refine call_len_dict hd dd (by rw [← rel.length]; rw [sizeLine_eq] at z; omega) ?_
  rw [← rel.length]
  exact h _ _ (I.tok _)
theorem w_truth {A : Around} {E : Value → Shared → Prop} {Q : Bool → Shared → Prop} (I : Inv X pins σ H s) (d : DRd X.prog X.w X.K H a l) (h : ∀ s', Inv X pins σ H s' → Q (!l.isEmpty) s') : wpAny (model X.prog X.w) A (truthy (.ref a)) Q E s := by
  obtain ⟨z, hd, vs, rel, dd⟩ := dk_any I d
  refine wpAny_truthy_dict hd dd (by rw [← rel.length]; rw [sizeLine_eq] at z; omega) ?_
  have q : l.isEmpty = vs.isEmpty := by cases rel <;> rfl
  rw [← q]
  exact h _ (I.tok _)
theorem w_get1 {A : Around} {E : Value → Shared → Prop} {Q : Value → Shared → Prop} (I : Inv X pins σ H s) (d : DRd X.prog X.w X.K H a l) (ry : RelV (kV k) u) (h : ∀ w' s', Inv X pins σ H s' → RelV ((valV l k).getD .non) w' → Q w' s') :
    wpAny (model X.prog X.w) A (call (.builtin "dict.get") [.ref a, u]) Q E s := by
  obtain ⟨z, hd, vs, rel, dd⟩ := dk_any I d
  exact call_meetsIn PySem.F.slot_dict_get dd.typeIs PySem.F.entry_dict_get (PySem.F.args_dict_get_2 _ _) (meets_dict_get (mixKind X.prog X.w) a (kV_is ry) hd) ⟨_, dd.mapOf, h _ _ (I.tok _) ((rel.val k).getD rfl)⟩
theorem w_get2 {A : Around} {E : Value → Shared → Prop} {dv : V} {r : Value} {Q : Value → Shared → Prop} (I : Inv X pins σ H s) (d : DRd X.prog X.w X.K H a l) (ry : RelV (kV k) u) (rd : RelV dv r) (h : ∀ w' s', Inv X pins σ H s' → RelV ((valV l k).getD dv) w' → Q w' s') :
    wpAny (model X.prog X.w) A (call (.builtin "dict.get") [.ref a, u, r]) Q E s := by
  obtain ⟨z, hd, vs, rel, dd⟩ := dk_any I d
  exact call_meetsIn PySem.F.slot_dict_get dd.typeIs PySem.F.entry_dict_get (PySem.F.args_dict_get_3 _ _ _) (meets_dict_get_default (mixKind X.prog X.w) a (kV_is ry) hd r) ⟨_, dd.mapOf, h _ _ (I.tok _) ((rel.val k).getD rd)⟩
theorem w_copy {A : Around} {E : Value → Shared → Prop} {Q : Value → Shared → Prop} (I : Inv X pins σ H s) (d : DRd X.prog X.w X.K H a l) (h : ∀ p s', H p = none → Inv X pins σ (upd H p (.dK l)) s' → Q (.ref p) s') : wpAny (model X.prog X.w) A (call (.type "dict") [.ref a]) Q E s := by
  obtain ⟨z, hd, vs, rel, dd⟩ := dk_any I d
  refine kt_call_dict hd dd (by rw [← rel.length]; exact z) fun h' dd' hs => ?_
  refine h _ _ (I.hok.fresh (Nat.le_refl _)) (I.laid (a := s.heap.objs.size) (o := .dK l) (t' := s.toks) (fun b q hq => ?_) (Nat.le_refl _) (dk_new z (beq_eq_false_iff_ne.mpr (Ne.symm (Nat.ne_of_lt I.big))) rel dd'))
  exact (hs.2 b (Nat.ne_of_lt (Heap.lt_size hq))).trans (Heap.get?_push_of_some _ hq)
theorem w_type (I : Inv X pins σ H s) (d : DRd X.prog X.w X.K H a l) : s.TypeIs (.ref a) "dict" := by
  obtain ⟨z, hd, vs, rel, dd⟩ := dk_any I d
  exact dd.typeIs
end
/-- a dict's content -/
def kvOf : MV → MH → Option (List (MV × MV))
  | .loc n, mh => match mh[n]? with
    | some (.dct kvs) => some kvs
    | _ => none
  | .wd i ks vs, _ => if ks.isEmpty then none else some (ks.zip vs)
  | _, _ => none
theorem kv_of {T : Tx} {X : Cx} {ρ : List Addr} {H : Hp} {mh : MH} {m : MV} {x : V} {kvs : List (MV × MV)} (hw : WdOk T X) (rh : RH T ρ mh H) (r : RV T ρ H m x) (e : kvOf m mh = some kvs) : ∃ a l, x = .ref a ∧ RKs T ρ H kvs l ∧ DRd X.prog X.w X.K H a l := by
  unfold kvOf at e
  split at e
  · split at e
    · rename_i n _ kvs' en
      cases e
      unfold RV at r
      obtain ⟨a, rfl, h1⟩ := r
      obtain ⟨l, e2, h2⟩ := rh.ob _ a _ h1 en
      exact ⟨a, l, rfl, h2, .inl (.of e2)⟩
    · cases e
  · split at e
    · cases e
    · rename_i i ks vs hn
      cases e
      unfold RV at r
      obtain ⟨rfl, rfl, rfl⟩ := r
      obtain ⟨_, l, h1, h2⟩ := hw i (by intro z; rw [z] at hn; simp at hn)
      exact ⟨_, l, rfl, h1 ρ H, .inr h2⟩
  · cases e
end Vf
end L2
end
section
/-! VD: comparisons, places, slices, kinds. -/
namespace L2
namespace Vf
open PySem PySem.Spec PyProof.Rows
def ltM : P2
  | .int i, .int j, mh => some (.bl (decide (i < j)), mh)
  | _, _, _ => none
def leM : P2
  | .int i, .int j, mh => some (.bl (decide (i ≤ j)), mh)
  | _, _, _ => none
def gtM : P2
  | .int i, .int j, mh => some (.bl (decide (j < i)), mh)
  | _, _, _ => none
def geM : P2
  | .int i, .int j, mh => some (.bl (decide (j ≤ i)), mh)
  | _, _, _ => none
/-- == by data -/
def eqG (mh : MH) (a b : MV) : Option Bool := match fz mh 60 a, fz mh 60 b with
  | some d, some e => if SeqAt.shaped d && SeqAt.shaped e then some (PyData.eqv d e) else none
  | _, _ => none
def eqB (mh : MH) : MV → MV → Option Bool
  | .int i, .int j => some (decide (i = j))
  | .str a, .str b => some (beqL a b)
  | a, b => eqG mh a b
def eqM : P2 := fun a b mh => match eqB mh a b with
  | some r => some (.bl r, mh)
  | none => none
def neM : P2 := fun a b mh => match eqB mh a b with
  | some r => some (.bl (!r), mh)
  | none => none
def inG (mh : MH) (a b : MV) : Option Bool := match fz mh 60 a, fz mh 60 b with
  | some d, some (.list ds) => if SeqAt.shaped d && SeqAt.shaped (.list ds) then some (ds.any fun z => PyData.eqv z d) else none
  | some d, some (.tuple ds) => if SeqAt.shaped d && SeqAt.shaped (.list ds) then some (ds.any fun z => PyData.eqv z d) else none
  | _, _ => none
def inD (mh : MH) (a b : MV) : Option Bool := match kvOf b mh with
  | some kvs => if isKeyM a then some (dfind kvs a).isSome else none
  | none => inG mh a b
def inB (mh : MH) : MV → MV → Option Bool
  | .str [c], .str z => some (memL c z)
  | a, b => inD mh a b
def inM : P2 := fun a b mh => match inB mh a b with
  | some r => some (.bl r, mh)
  | none => none
def notinM : P2 := fun a b mh => match inB mh a b with
  | some r => some (.bl (!r), mh)
  | none => none
def isNonB : MV → Bool
  | .non => true
  | _ => false
def isM : P2
  | a, .non, mh => some (.bl (isNonB a), mh)
  | .bl a, .bl b, mh => some (.bl (decide (a = b)), mh)
  | _, _, _ => none
def isnotM : P2
  | a, .non, mh => some (.bl (!isNonB a), mh)
  | .bl a, .bl b, mh => some (.bl (!decide (a = b)), mh)
  | _, _, _ => none
section
variable {T : Tx} {X : Cx}
theorem cmpI {op : CmpOp} {g : Int → Int → Bool} {p : P2} (hr : OpR X (compareOp op) (rI0 fun i j => .bl (g i j))) (h : ∀ a b mh m mh', p a b mh = some (m, mh') → ∃ i j, a = .int i ∧ b = .int j ∧ m = .bl (g i j) ∧ mh' = mh) : OpR X (compareOp op) (R2of T p) := by
  intro pins s σ H x y v u Q I rx ry ⟨ρ, a, b, mh, m, mh', rh, ra, rb, hp, k⟩
  obtain ⟨i, j, rfl, rfl, rfl, rfl⟩ := h _ _ _ _ _ hp
  unfold RV at ra rb; subst ra rb
  exact hr pins s σ H _ _ v u Q I rx ry ⟨_, _, rfl, rfl, k.pure rh .bl⟩
theorem lt_ok : OpR X (compareOp .Lt) (R2of T ltM) := cmpI op_lt fun a b mh m mh' h => by unfold ltM at h; split at h <;> cases h; exact ⟨_, _, rfl, rfl, rfl, rfl⟩
theorem le_ok : OpR X (compareOp .LtE) (R2of T leM) := cmpI op_le fun a b mh m mh' h => by unfold leM at h; split at h <;> cases h; exact ⟨_, _, rfl, rfl, rfl, rfl⟩
theorem gt_ok : OpR X (compareOp .Gt) (R2of T gtM) := cmpI op_gt fun a b mh m mh' h => by unfold gtM at h; split at h <;> cases h; exact ⟨_, _, rfl, rfl, rfl, rfl⟩
theorem ge_ok : OpR X (compareOp .GtE) (R2of T geM) := cmpI op_ge fun a b mh m mh' h => by unfold geM at h; split at h <;> cases h; exact ⟨_, _, rfl, rfl, rfl, rfl⟩
theorem V_str_eq {a b : List Nat} : decide (V.str (S a) = V.str (S b)) = beqL a b := by
  rw [beqL_eq, Bool.eq_iff_iff, decide_eq_true_iff, decide_eq_true_iff]
  exact ⟨fun h => S_inj (V.str.inj h), fun h => by rw [h]⟩
/-- equality, both ways -/
theorem eq_core {op : CmpOp} {n : Bool → Bool} (h1 : OpR X (compareOp op) (fun x y H Q => scal x y = true ∧ Q (.bl (n (decide (x = y)))) H))
    (h2 : OpR X (compareOp op) (fun x y H Q => ∃ d e, Dp X.K H x d ∧ Dp X.K H y e ∧ SeqAt.shaped d = true ∧ SeqAt.shaped e = true ∧ Q (.bl (n (PyData.eqv d e))) H)) (hK : X.K = T.K) :
    OpR X (compareOp op) (R2of T fun a b mh => match eqB mh a b with
      | some r => some (.bl (n r), mh)
      | none => none) := by
  intro pins s σ H x y v u Q I rx ry ⟨ρ, a, b, mh, m, mh', rh, ra, rb, hp, k⟩
  dsimp only at hp
  split at hp
  · rename_i r er
    cases hp
    unfold eqB at er
    split at er
    · rename_i i j
      cases er; unfold RV at ra rb; subst ra rb
      refine h1 pins s σ H _ _ v u Q I rx ry ⟨rfl, ?_⟩
      have e : decide (V.int i = V.int j) = decide (i = j) := by simp
      rw [e]
      exact k.pure rh .bl
    · cases er; unfold RV at ra rb; subst ra rb
      refine h1 pins s σ H _ _ v u Q I rx ry ⟨rfl, ?_⟩
      rw [V_str_eq]
      exact k.pure rh .bl
    · unfold eqG at er
      split at er
      · split at er
        · rename_i d e ed ee hs
          cases er
          have hs := Bool.and_eq_true_iff.mp hs
          exact h2 pins s σ H _ _ v u Q I rx ry ⟨d, e, by rw [hK]; exact fz_dp rh ra ed, by rw [hK]; exact fz_dp rh rb ee, hs.1, hs.2, k.pure rh .bl⟩
        · cases er
      · cases er
  · cases hp
theorem eq_ok (hK : X.K = T.K) (hu : X.A.units + 64 < cLine) : OpR X (compareOp .Eq) (R2of T eqM) := eq_core (n := id) op_eq (op_eqD hu) hK
theorem ne_ok (hK : X.K = T.K) (hu : X.A.units + 64 < cLine) : OpR X (compareOp .NotEq) (R2of T neM) := eq_core (n := not) op_ne (op_neD hu) hK
theorem in_core {op : CmpOp} {n : Bool → Bool} (h1 : OpR X (compareOp op) (fun x y H Q => ∃ (c : Nat) (z : Str), x = .str ⟨#[c]⟩ ∧ y = .str z ∧ Q (.bl (n (decide (c ∈ z.cps.toList)))) H))
    (h2 : OpR X (compareOp op) (fun x y H Q => ∃ d ds, Dp X.K H x d ∧ (Dp X.K H y (.list ds) ∨ Dp X.K H y (.tuple ds)) ∧ SeqAt.shaped d = true ∧ SeqAt.shaped (.list ds) = true ∧ Q (.bl (n (ds.any fun z => PyData.eqv z d))) H))
    (h3 : OpR X (compareOp op) (fun x y H Q => ∃ (a : Addr) (l : List (Key × V)) (k : Key), y = .ref a ∧ x = kV k ∧ DRd X.prog X.w X.K H a l ∧ Q (.bl (n (valV l k).isSome)) H)) (hw : WdOk T X) (hK : X.K = T.K) :
    OpR X (compareOp op) (R2of T fun a b mh => match inB mh a b with
      | some r => some (.bl (n r), mh)
      | none => none) := by
  intro pins s σ H x y v u Q I rx ry ⟨ρ, a, b, mh, m, mh', rh, ra, rb, hp, k⟩
  dsimp only at hp
  split at hp
  · rename_i r er
    cases hp
    unfold inB at er
    split at er
    · rename_i c z
      cases er; unfold RV at ra rb; subst ra rb
      refine h1 pins s σ H _ _ v u Q I rx ry ⟨c, S z, rfl, rfl, ?_⟩
      rw [S_cps, ← memL_eq]
      exact k.pure rh .bl
    · unfold inD at er
      split at er
      · rename_i kvs ek
        split at er
        · rename_i hkey
          cases er
          obtain ⟨p, l, rfl, rk, dr⟩ := kv_of hw rh rb ek
          obtain ⟨kk, rfl, rfl⟩ := key_of_is hkey ra
          refine h3 pins s σ H _ _ v u Q I rx ry ⟨p, l, kk, rfl, rfl, dr, ?_⟩
          have e : (valV l kk).isSome = (dfind kvs (keyM kk)).isSome := by
            rcases rk.find kk with ⟨e1, e2⟩ | ⟨m, v, e1, e2, _⟩
            · rw [e1, e2]; rfl
            · rw [e1, e2]; rfl
          rw [e]
          exact k.pure rh .bl
        · cases er
      unfold inG at er
      split at er
      · split at er
        · rename_i d ds ed ee hs
          cases er
          have hs := Bool.and_eq_true_iff.mp hs
          exact h2 pins s σ H _ _ v u Q I rx ry ⟨d, ds, by rw [hK]; exact fz_dp rh ra ed, .inl (by rw [hK]; exact fz_dp rh rb ee), hs.1, hs.2, k.pure rh .bl⟩
        · cases er
      · split at er
        · rename_i d ds ed ee hs
          cases er
          have hs := Bool.and_eq_true_iff.mp hs
          exact h2 pins s σ H _ _ v u Q I rx ry ⟨d, ds, by rw [hK]; exact fz_dp rh ra ed, .inr (by rw [hK]; exact fz_dp rh rb ee), hs.1, hs.2, k.pure rh .bl⟩
        · cases er
      · cases er
  · cases hp
theorem op_inDT (hu : X.A.units + 65 < cLine) : OpR X (compareOp .In) (fun x y H Q => ∃ d ds, Dp X.K H x d ∧ (Dp X.K H y (.list ds) ∨ Dp X.K H y (.tuple ds)) ∧ SeqAt.shaped d = true ∧ SeqAt.shaped (.list ds) = true ∧ Q (.bl (id (ds.any fun z => PyData.eqv z d))) H) := by
  intro pins s σ H x y v u Q I rx ry h
  obtain ⟨d, ds, hd, he, sd, se, q⟩ := h
  obtain ⟨as, r1⟩ := Dp.reads I d x v hd rx
  rcases he with he | he
  · obtain ⟨bs, r2⟩ := Dp.reads I (.list ds) y u he ry
    exact SeqAt.in_list_reads r2 r1 (SeqAt.canLay_of_shaped se) (SeqAt.canLay_of_shaped sd) (room_in_shaped sd hu) ⟨.bl _, H, I, rfl, q⟩
  · obtain ⟨bs, r2⟩ := Dp.reads I (.tuple ds) y u he ry
    exact SeqAt.in_tuple_reads r2 r1 (SeqAt.canLay_of_shaped se) (SeqAt.canLay_of_shaped sd) (room_in_shaped sd hu) ⟨.bl _, H, I, rfl, q⟩
theorem op_notinDT (hu : X.A.units + 65 < cLine) : OpR X (compareOp .NotIn) (fun x y H Q => ∃ d ds, Dp X.K H x d ∧ (Dp X.K H y (.list ds) ∨ Dp X.K H y (.tuple ds)) ∧ SeqAt.shaped d = true ∧ SeqAt.shaped (.list ds) = true ∧ Q (.bl (!(ds.any fun z => PyData.eqv z d))) H) := by
  intro pins s σ H x y v u Q I rx ry h
  obtain ⟨d, ds, hd, he, sd, se, q⟩ := h
  obtain ⟨as, r1⟩ := Dp.reads I d x v hd rx
  rcases he with he | he
  · obtain ⟨bs, r2⟩ := Dp.reads I (.list ds) y u he ry
    exact SeqAt.notIn_list_reads r2 r1 (SeqAt.canLay_of_shaped se) (SeqAt.canLay_of_shaped sd) (room_in_shaped sd hu) ⟨.bl _, H, I, rfl, q⟩
  · obtain ⟨bs, r2⟩ := Dp.reads I (.tuple ds) y u he ry
    exact SeqAt.notIn_tuple_reads r2 r1 (SeqAt.canLay_of_shaped se) (SeqAt.canLay_of_shaped sd) (room_in_shaped sd hu) ⟨.bl _, H, I, rfl, q⟩
theorem op_inW : OpR X (compareOp .In) (fun x y H Q => ∃ (a : Addr) (l : List (Key × V)) (k : Key), y = .ref a ∧ x = kV k ∧ DRd X.prog X.w X.K H a l ∧ Q (.bl (id (valV l k).isSome)) H) := by
  intro pins s σ H x y v u Q I rx ry ⟨a, l, k, ey, ex, d, q⟩
  subst ex ey
  obtain rfl : u = Value.ref a := ry
  exact w_in I d rx fun s' I' => ⟨.bl _, H, I', rfl, q⟩
theorem op_notinW : OpR X (compareOp .NotIn) (fun x y H Q => ∃ (a : Addr) (l : List (Key × V)) (k : Key), y = .ref a ∧ x = kV k ∧ DRd X.prog X.w X.K H a l ∧ Q (.bl (!(valV l k).isSome)) H) := by
  intro pins s σ H x y v u Q I rx ry ⟨a, l, k, ey, ex, d, q⟩
  subst ex ey
  obtain rfl : u = Value.ref a := ry
  exact w_notIn I d rx fun s' I' => ⟨.bl _, H, I', rfl, q⟩
theorem in_ok (hw : WdOk T X) (hK : X.K = T.K) (hu : X.A.units + 65 < cLine) : OpR X (compareOp .In) (R2of T inM) := in_core (n := id) op_in_sign (op_inDT hu) op_inW hw hK
theorem notin_ok (hw : WdOk T X) (hK : X.K = T.K) (hu : X.A.units + 65 < cLine) : OpR X (compareOp .NotIn) (R2of T notinM) := in_core (n := not) op_notIn_sign (op_notinDT hu) op_notinW hw hK
theorem non_iff {ρ : List Addr} {H : Hp} {a : MV} {x : V} (r : RV T ρ H a x) : isNonB a = decide (x = .non) := by
  cases a with
  | tup xs => unfold RV at r; obtain ⟨_, _, rfl, _⟩ := r; rfl
  | fl xs => unfold RV at r; obtain ⟨_, _, rfl, _⟩ := r; rfl
  | loc xs => unfold RV at r; obtain ⟨_, rfl, _⟩ := r; rfl
  | wd i ks vs => unfold RV at r; obtain ⟨rfl, _⟩ := r; rfl
  | pr xs => unfold RV at r; obtain ⟨_, _, rfl, _⟩ := r; rfl
  | _ => unfold RV at r; subst r; rfl
theorem is_ok : OpR X (compareOp .Is) (R2of T isM) := by
  intro pins s σ H x y v u Q I rx ry ⟨ρ, a, b, mh, m, mh', rh, ra, rb, hp, k⟩
  unfold isM at hp
  split at hp
  · cases hp
    have e := non_iff ra
    unfold RV at rb; subst rb
    refine op_isN pins s σ H _ _ v u Q I rx ry ⟨rfl, ?_⟩
    rw [← e]
    exact k.pure rh .bl
  · cases hp
    unfold RV at ra rb; subst ra rb
    exact op_isBl pins s σ H _ _ v u Q I rx ry ⟨_, _, rfl, rfl, k.pure rh .bl⟩
  · cases hp
theorem isnot_ok : OpR X (compareOp .IsNot) (R2of T isnotM) := by
  intro pins s σ H x y v u Q I rx ry ⟨ρ, a, b, mh, m, mh', rh, ra, rb, hp, k⟩
  unfold isnotM at hp
  split at hp
  · cases hp
    have e := non_iff ra
    unfold RV at rb; subst rb
    refine op_notN pins s σ H _ _ v u Q I rx ry ⟨rfl, ?_⟩
    rw [← e]
    exact k.pure rh .bl
  · cases hp
    unfold RV at ra rb; subst ra rb
    exact op_notBl pins s σ H _ _ v u Q I rx ry ⟨_, _, rfl, rfl, k.pure rh .bl⟩
  · cases hp
end
/-! ### places -/
/-- the item at a place of any sign -/
def getM (xs : List MV) (i : Int) : Option MV := match i with
  | .ofNat n => xs[n]?
  | .negSucc n => if Nat.ble (n + 1) xs.length then xs[xs.length - (n + 1)]? else none
def getC (xs : List Nat) (i : Int) : Option Nat := match i with
  | .ofNat n => xs[n]?
  | .negSucc n => if Nat.ble (n + 1) xs.length then xs[xs.length - (n + 1)]? else none
/-- a dict's value -/
def ixD : P2 := fun a k mh => match kvOf a mh with
  | some kvs => if isKeyM k then (match dfind kvs k with
    | some v => some (v, mh)
    | none => none) else none
  | none => none
def ixM : P2
  | .tup xs, .int i, mh => match getM xs i with
    | some v => some (v, mh)
    | none => none
  | .fl xs, .int i, mh => match getM xs i with
    | some v => some (v, mh)
    | none => none
  | .loc n, .int i, mh => match mh[n]? with
    | some (.lst xs) => match getM xs i with
      | some v => some (v, mh)
      | none => none
    | _ => none
  | .str cs, .int i, mh => match getC cs i with
    | some c => if Nat.ble cs.length lim then some (.str [c], mh) else none
    | none => none
  | a, k, mh => ixD a k mh
section
variable {T : Tx} {X : Cx}
theorem ixN_of {n : Nat} {i : Int} {j : Nat} (h : (0 ≤ i ∧ i.toNat = j ∧ j < n) ∨ (i < 0 ∧ (i + n).toNat = j ∧ -(n : Int) ≤ i)) : ixN n i = some j := by
  unfold ixN
  rcases h with ⟨h1, h2, h3⟩ | ⟨h1, h2, h3⟩
  · rw [if_pos h1, if_pos (by omega), h2]
  · rw [if_neg (by omega), if_pos h3, h2]
theorem atI_of {α : Type} {xs : List α} {i : Int} {v : α} (h : (match i with
  | .ofNat n => xs[n]?
  | .negSucc n => if Nat.ble (n + 1) xs.length then xs[xs.length - (n + 1)]? else none) = some v) : atI xs i = some v := by
  unfold atI
  split at h
  · rename_i n
    have hn := (List.getElem?_eq_some_iff.mp h).1
    rw [ixN_of (j := n) (.inl ⟨by simp, by simp, hn⟩)]
    exact h
  · rename_i n
    split at h
    · rename_i hb
      have hb := Nat.le_of_ble_eq_true hb
      rw [ixN_of (j := xs.length - (n + 1)) (.inr ⟨by omega, by omega, by omega⟩)]
      exact h
    · cases h
theorem atI_rel {ρ : List Addr} {H : Hp} {xs : List MV} {vs : List V} {i : Int} {m : MV} (r : RVs T ρ H xs vs) (h : getM xs i = some m) : ∃ v, atI vs i = some v ∧ RV T ρ H m v := by
  unfold getM at h
  split at h
  · rename_i n
    obtain ⟨v, e, rv⟩ := r.get h
    exact ⟨v, atI_of e, rv⟩
  · rename_i n
    split at h
    · rename_i hb
      obtain ⟨v, e, rv⟩ := r.get h
      refine ⟨v, atI_of ?_, rv⟩
      show (if Nat.ble (n + 1) vs.length then vs[vs.length - (n + 1)]? else none) = some v
      rw [r.len, if_pos hb]
      exact e
    · cases h
theorem ix_dct (hw : WdOk T X) {value slice : Expr} {pins : List (Addr × Obj)} {s : Shared} {σ : L2.St} {H : Hp} {x y : V} {v u : Value} {Q : VK} {ρ : List Addr} {a b m : MV} {mh mh' : MH} (I : Inv X pins σ H s) (rx : RelV x v) (ry : RelV y u)
    (rh : RH T ρ mh H) (ra : RV T ρ H a x) (rb : RV T ρ H b y) (hp : ixD a b mh = some (m, mh')) (k : Aft T ρ H m mh' Q) (hs : subscripted slice false v u = operate [v, u] (getItem v u)) : wpAny (model X.prog X.w) X.A (subscriptTail value slice v u) (EP X pins σ Q) X.xe s := by
  unfold ixD at hp
  split at hp
  · rename_i kvs ek
    split at hp
    · rename_i hkey
      split at hp
      · rename_i w ew
        cases hp
        obtain ⟨p, l, rfl, rk, dr⟩ := kv_of hw rh ra ek
        obtain ⟨kk, rfl, rfl⟩ := key_of_is hkey rb
        obtain rfl : v = Value.ref p := rx
        rcases rk.find kk with ⟨e1, e2⟩ | ⟨m', v', e1, e2, r3⟩
        · rw [e1] at ew; cases ew
        · rw [e1] at ew; cases ew
          exact tail_any (w_type I dr) PySem.F.slot_dict_getitem.lookup (w_get I dr e2 ry fun w' s' I' rw' => ⟨_, H, I', rw', k.pure rh r3⟩) hs
      · cases hp
    · cases hp
  · cases hp
theorem ix_ok (hw : WdOk T X) (hK : X.K = T.K) : IxR X (R2of T ixM) := by
  intro value slice pins s σ H x y v u Q I rx ry ⟨ρ, a, b, mh, m, mh', rh, ra, rb, hp, k⟩ hs
  unfold ixM at hp
  split at hp
  · split at hp
    · rename_i e
      cases hp; unfold RV at ra rb; subst rb
      obtain ⟨p, vs, rfl, t1, r1⟩ := ra
      obtain ⟨z, ez, rz⟩ := atI_rel r1 e
      exact ix_tup value slice pins s σ H _ _ v u Q I rx ry ⟨p, vs, _, z, rfl, rfl, by rw [hK]; exact t1.sq, ez, k.pure rh rz⟩ hs
    · cases hp
  · split at hp
    · rename_i e
      cases hp; unfold RV at ra rb; subst rb
      obtain ⟨p, vs, rfl, t1, r1⟩ := ra
      obtain ⟨z, ez, rz⟩ := atI_rel r1 e
      exact ix_list value slice pins s σ H _ _ v u Q I rx ry ⟨p, vs, _, z, rfl, rfl, by rw [hK]; exact t1.sq, ez, k.pure rh rz⟩ hs
    · cases hp
  · split at hp
    · split at hp
      · rename_i e
        cases hp; unfold RV at rb; subst rb
        obtain ⟨p, vs, rfl, g1, h1, r1⟩ := loc_lst rh ra (by assumption)
        obtain ⟨z, ez, rz⟩ := atI_rel r1 e
        exact ix_list value slice pins s σ H _ _ v u Q I rx ry ⟨p, vs, _, z, rfl, rfl, SqL.of h1, ez, k.pure rh rz⟩ hs
      · cases hp
    · cases hp
  · split at hp
    · split at hp
      · rename_i e hz
        cases hp; unfold RV at ra rb; subst ra rb
        refine ix_str value slice pins s σ H _ _ v u Q I rx ry ⟨S _, _, _, rfl, rfl, ?_, ?_, k.pure rh .str⟩ hs
        · rw [S_len, ← lim_eq]; exact Nat.le_of_ble_eq_true hz
        · rw [S_cps]; exact atI_of e
      · cases hp
    · cases hp
  · exact ix_dct hw I rx ry rh ra rb hp k hs
end
/-! ### slices -/
def cutG {α : Type} (xs : List α) (lo hi : Option Int) : List α := (xs.drop (HT.sIx xs.length 0 lo)).take (HT.sIx xs.length xs.length hi - HT.sIx xs.length 0 lo)
def sliceM (a : MV) (lo hi : Option Int) (mh : MH) : Option (MV × MH) := match a with
  | .str cs => if Nat.ble cs.length lim then some (.str (cutG cs lo hi), mh) else none
  | .tup xs => some (.tup (cutG xs lo hi), mh)
  | .fl xs => some (.loc mh.length, mh ++ [.lst (cutG xs lo hi)])
  | .loc n => match mh[n]? with
    | some (.lst xs) => some (.loc mh.length, mh ++ [.lst (cutG xs lo hi)])
    | _ => none
  | _ => none
abbrev DO := Rt → Env' → MH → Rs (Option Int)
def noPartD : DO := fun _ _ mh => .ok none mh
def partD (d : DE) : DO := bnd d fun a _ _ mh => match a with
  | .int i => .ok (some i) mh
  | _ => .stuck
def sliceD (d : DE) (lo hi : DO) : DE := bnd d fun a => bnd lo fun l => bnd hi fun h _ _ mh => lft (sliceM a l h mh)
section
variable {T : Tx} {X : Cx} {W : WX} {rt : Rt} {e : Expr} {pos p2 : Pos}
abbrev TOof (T : Tx) (W : WX) (rt : Rt) (d : DO) : TO := Tof T (fun _ _ a b => a = b) W rt d
theorem so_none : PO X none (TOof T W rt noPartD) := ⟨fun pins s σ H Q I ⟨ρ, env, mh, rh, rs, w⟩ => po_none.run pins s σ H Q I (w none ρ H .refl rh rfl)⟩
theorem so_some {d : DE} (h : PE X e (TEof T W rt d)) : PO X (some e) (TOof T W rt (partD d)) := ⟨fun pins s σ H Q I ⟨ρ, env, mh, rh, rs, w⟩ => (po_some h).run pins s σ H Q I ((Want.bind rh rs w).mono fun x H1 ⟨ρ1, mh1, a, e1, rh1, rs1, ra, w1⟩ => by
  cases a <;> first | exact w1.elim | skip
  unfold RV at ra
  subst ra
  exact ⟨_, rfl, w1 _ ρ1 H1 .refl rh1 rfl⟩)⟩
def RSlof (T : Tx) : V → Option Int → Option Int → Hp → VK → Prop := fun x lo hi H Q => ∃ ρ a mh m mh', RH T ρ mh H ∧ RV T ρ H a x ∧ sliceM a lo hi mh = some (m, mh') ∧ Aft T ρ H m mh' Q
theorem cutG_rel {ρ : List Addr} {H : Hp} {xs : List MV} {vs : List V} (r : RVs T ρ H xs vs) (lo hi : Option Int) : RVs T ρ H (cutG xs lo hi) (cutV vs lo hi) := by
  unfold cutG cutV
  rw [r.len]
  exact (r.drop _).take _
theorem slice_ok (hK : X.K = T.K) : SlR X (RSlof T) := by
  intro pins s σ H x v vl vu lo hi sl Q I rx hs pl pu ⟨ρ, a, mh, m, mh', rh, ra, hp, k⟩
  unfold sliceM at hp
  split at hp
  · split at hp
    · rename_i hz
      cases hp; unfold RV at ra; subst ra
      refine sl_str pins s σ H _ v vl vu lo hi sl Q I rx hs pl pu ⟨S _, rfl, ?_, ?_⟩
      · rw [S_len, ← lim_eq]; exact Nat.le_of_ble_eq_true hz
      · have e : ∀ cs, cutS (S cs) lo hi = S (cutG cs lo hi) := fun cs => by
          unfold cutS cutG
          rw [S_len, S_cps]; rfl
        rw [e]
        exact k.pure rh .str
    · cases hp
  · rename_i xs
    cases hp; unfold RV at ra
    obtain ⟨p, vs, rfl, t1, r1⟩ := ra
    refine sl_tupF pins s σ H _ v vl vu lo hi sl Q I rx hs pl pu ⟨p, vs, rfl, by rw [hK]; exact t1.sq, fun ⟨e1, e2⟩ => ?_, fun _ => k.tup rh (cutG_rel r1 lo hi)⟩
    refine k.pure rh ?_
    have e3 : cutG xs lo hi = xs := by
      unfold cutG
      rw [← r1.len, e1, e2, List.drop_zero, Nat.sub_zero, r1.len, List.take_length]
    rw [e3]
    unfold RV; exact ⟨p, vs, rfl, t1, r1⟩
  · cases hp; unfold RV at ra
    obtain ⟨p, vs, rfl, t1, r1⟩ := ra
    exact sl_list pins s σ H _ v vl vu lo hi sl Q I rx hs pl pu ⟨p, vs, rfl, by rw [hK]; exact t1.sq, fun z hz => k.lst rh (cutG_rel r1 lo hi) hz⟩
  · split at hp
    · cases hp
      obtain ⟨p, vs, rfl, g1, h1, r1⟩ := loc_lst rh ra (by assumption)
      exact sl_list pins s σ H _ v vl vu lo hi sl Q I rx hs pl pu ⟨p, vs, rfl, SqL.of h1, fun z hz => k.lst rh (cutG_rel r1 lo hi) hz⟩
    · cases hp
  · cases hp
theorem se_slice {d : DE} {dl dh : DO} {lo hi : Option Expr} (hK : X.K = T.K) (he : PE X e (TEof T W rt d)) (hl : PO X lo (TOof T W rt dl)) (hu : PO X hi (TOof T W rt dh)) : PE X (.Subscript e (.Slice lo hi none p2) pos) (TEof T W rt (sliceD d dl dh)) :=
  (pe_slice (slice_ok hK) he hl hu).imp fun σ H Q ⟨ρ, env, mh, rh, rs, w⟩ => (Want.bind rh rs w).mono fun x H1 ⟨ρ1, mh1, a, e1, rh1, rs1, ra, w1⟩ => (Want.bind (rel := fun _ _ a b => a = b) rh1 rs1 w1).mono fun y H2 ⟨ρ2, mh2, b, e2, rh2, rs2, rb, w2⟩ =>
    (Want.bind (rel := fun _ _ a b => a = b) rh2 rs2 w2).mono fun z H3 ⟨ρ3, mh3, c, e3, rh3, rs3, rc, w3⟩ => by
      subst rb rc
      obtain ⟨m, mh4, hp, k⟩ := lft_want w3
      exact ⟨ρ3, a, mh3, m, mh4, rh3, (ra.mono e2).mono e3, hp, k⟩
end
end Vf
end L2
end
section
/-! VE: defs by their denotations: what a def promises, its call, its body. -/
namespace L2
namespace Vf
open PySem PySem.Spec PyProof.Rows
/-- what a def with n parameters promises: cl tells its result -/
def spOf (T : Tx) (cl : List MV → MH → Rs MV) (n : Nat) : Sp := fun vs H Q E => vs.length = n ∧ ∃ ρ as mh, RH T ρ mh H ∧ RVs T ρ H as vs ∧ Want T (RV T) ρ H E (cl as mh) Q
/-- a def holds its promise wherever no text is being written by repr -/
structure FnG (P : Program) (w : World) (K : PySem.W.Frag) (mg : Str → Option Value) (base : Heap) (k : Nat) (f : Addr) (fd : FuncData) (ps : List Str) (sp : Sp) : Prop where
  len : ∀ vs H Q E, sp vs H Q E → vs.length = ps.length
  run : ∀ (A : Around) (outer : List Env) (s : Shared) (H : Hp) (args : Args) (us : List Value) (vs : List V) (Q : VK) (E : XK), A.guards = some [] → Room k A → Env0 P w K mg base A outer s H → BindsTo s fd args (ps.zip us) → Vals vs us → sp vs H Q E →
    codeAny (model P w) A (.call (.ref f) args) (CR (L2.CX P w) outer P w H s Q E) s
/-- the keywords' values in the parameters' order -/
def kwIn {α : Type} (ps ks : List Str) (ws : List α) : List α := ps.filterMap fun p => (ks.zip ws).lookup p
theorem look_rel {zs : List V} {ws : List Value} (h : Vals zs ws) (p : Str) : ∀ ks : List Str, ((ks.zip zs).lookup p = none ∧ (ks.zip ws).lookup p = none) ∨ ∃ v u, (ks.zip zs).lookup p = some v ∧ (ks.zip ws).lookup p = some u ∧ RelV v u := by
  induction h with
  | nil => intro ks; cases ks <;> exact .inl ⟨rfl, rfl⟩
  | @cons v u zs ws r t ih =>
    intro ks
    cases ks with
    | nil => exact .inl ⟨rfl, rfl⟩
    | cons k ks =>
      rw [List.zip_cons_cons, List.zip_cons_cons, List.lookup_cons, List.lookup_cons]
      cases e : p == k with
      | true => exact .inr ⟨v, u, rfl, rfl, r⟩
      | false => exact ih ks
theorem kwIn_vals {zs : List V} {ws : List Value} (h : Vals zs ws) (ks : List Str) : ∀ ps : List Str, Vals (kwIn ps ks zs) (kwIn ps ks ws)
  | [] => .nil
  | p :: ps => by
    unfold kwIn
    rw [List.filterMap_cons, List.filterMap_cons]
    rcases look_rel h p ks with ⟨e1, e2⟩ | ⟨v, u, e1, e2, r⟩
    · rw [e1, e2]; exact kwIn_vals h ks ps
    · rw [e1, e2]; exact .cons r (kwIn_vals h ks ps)
section
variable {T : Tx} {ρ : List Addr} {H : Hp}
theorem look_rv (p : Str) : ∀ {ms : List MV} {zs : List V}, RVs T ρ H ms zs → ∀ ks : List Str, ((ks.zip ms).lookup p = none ∧ (ks.zip zs).lookup p = none) ∨ ∃ m v, (ks.zip ms).lookup p = some m ∧ (ks.zip zs).lookup p = some v ∧ RV T ρ H m v
  | [], zs, h, ks => by
    unfold RVs at h; subst h
    cases ks <;> exact .inl ⟨rfl, rfl⟩
  | m :: ms, zs, h, ks => by
    unfold RVs at h
    obtain ⟨v, r, rfl, h1, h2⟩ := h
    cases ks with
    | nil => exact .inl ⟨rfl, rfl⟩
    | cons k ks =>
      rw [List.zip_cons_cons, List.zip_cons_cons, List.lookup_cons, List.lookup_cons]
      cases e : p == k with
      | true => exact .inr ⟨m, v, rfl, rfl, h1⟩
      | false => exact look_rv p h2 ks
theorem kwIn_rv {ms : List MV} {zs : List V} (h : RVs T ρ H ms zs) (ks : List Str) : ∀ ps : List Str, RVs T ρ H (kwIn ps ks ms) (kwIn ps ks zs)
  | [] => .nil
  | p :: ps => by
    unfold kwIn
    rw [List.filterMap_cons, List.filterMap_cons]
    rcases look_rv p h ks with ⟨e1, e2⟩ | ⟨v, u, e1, e2, r⟩
    · rw [e1, e2]; exact kwIn_rv h ks ps
    · rw [e1, e2]; exact .cons r (kwIn_rv h ks ps)
end
/-- how a call with n values by place and the keywords ks binds -/
def KwB (K : PySem.W.Frag) (fd : FuncData) (ps : List Str) (n : Nat) (ks : List Str) : Prop :=
  ∀ (s : Shared) (us ws : List Value), K.In s.heap → us.length = n → ws.length = ks.length → BindsTo s fd ⟨us, ks.zip ws⟩ (ps.zip (us ++ kwIn (ps.drop n) ks ws))
/-- a def of the text, as a caller knows it: its place among the defs, its name, its parameters, the calls by keywords that are met -/
structure FnR (T : Tx) (rt : Rt) (X : Cx) (i : Nat) (x : Str) (ps : List Str) (kws : List (Nat × List Str)) : Prop where
  ex : ∃ k f fd, FnG X.prog X.w X.K X.mg X.base k f fd ps (spOf T (rt.call i) ps.length) ∧ Room k X.A ∧ X.mg x = some (.ref f) ∧ PySem.W.keepIn X.K (.ref f) = true ∧ Binds X.K fd ps [] ∧ ∀ q ∈ kws, KwB X.K fd ps q.1 q.2
def callM (i np : Nat) (as : List MV) : DE := fun rt _ mh => if Nat.beq as.length np then rt.call i as mh else .stuck
def callD (i np : Nat) (dl : DL) : DE := bnd dl fun as => callM i np as
/-- rest: the parameters that stand behind those by place; n: how many by place -/
def callKD (i np n : Nat) (rest ks : List Str) (dl dk : DL) : DE := bnd dl fun as => bnd dk fun ws rt env mh => if Nat.beq as.length n && Nat.beq ws.length ks.length then callM i np (as ++ kwIn rest ks ws) rt env mh else .stuck
section
variable {T : Tx} {X : Cx} {W : WX} {rt : Rt} {i : Nat} {x : Str} {ps ks : List Str} {kws : List (Nat × List Str)} {kwl : List Keyword} {e : Expr} {es : List Expr} {dl dk : DL} {p pos : Pos}
theorem run_fnG {k : Nat} {f : Addr} {fd : FuncData} {pins : List (Addr × Obj)} {σ : St} {H : Hp} {s : Shared} {Q : VK} {us : List Value} {vs : List V} {sp : Sp} {args : Args} (F : FnG X.prog X.w X.K X.mg X.base k f fd ps sp) (hg : X.A.guards = some []) (hr : Room k X.A) (tk : Takes X W)
    (I : Inv X pins σ H s) (r : Vals vs us) (hb : BindsTo s fd args (ps.zip us)) (h : sp vs H Q fun c d H' => W c d σ H') : codeAny (model X.prog X.w) X.A (.call (.ref f) args) (fun r s' => match r with
      | .ok (.ret u) => EP X pins σ Q u s'
      | .ok _ => False
      | .error e => X.xe e s') s := by
  refine codeAny_mono (F.run X.A X.stack s H args us vs Q _ hg hr I.env0 hb r h) fun r s' hq => ?_
  cases r with
  | error e => exact passAt tk σ pins H s e s' I hq
  | ok fl =>
    cases fl with
    | ret u => exact I.after hq
    | next => exact hq.elim
    | brk => exact hq.elim
    | cont => exact hq.elim
theorem call_of_code {f : Value} {us : List Value} {kw : List (Str × Value)} {A : Around} {s : Shared} {Q : Value → Shared → Prop} {E : Value → Shared → Prop} {M : Model} (h : codeAny M A (.call f ⟨us, kw⟩) (fun r s' => match r with
      | .ok (.ret u) => Q u s'
      | .ok _ => False
      | .error e => E e s') s) : wpAny M A (call f us kw) Q E s := by
  refine wpAny_call (codeAny_mono h fun r s' hq => ?_)
  rcases r with e | (v | _ | _ | _) <;> first | exact hq | exact hq.elim
theorem callM_want {as : List MV} {env : Env'} {mh : MH} {ρ : List Addr} {H : Hp} {E : XK} {Q : VK} {np : Nat} (w : Want T (RV T) ρ H E (callM i np as rt env mh) Q) : as.length = np ∧ Want T (RV T) ρ H E (rt.call i as mh) Q := by
  unfold callM at w
  split at w
  · rename_i h
    exact ⟨Nat.eq_of_beq_eq_true h, w⟩
  · exact w.elim
theorem se_call (hg : X.A.guards = some []) (tk : Takes X W) (F : FnR T rt X i x ps kws) (hgl : Gl X x) (ha : PA X (e :: es) (TAof T W rt dl)) (hdb : (x == ("__debug__" : Str)) = false)
    (he : starEach (e :: es) X.env = (false, eval e X.env) :: starEach es X.env) (hpl : (backTo pos (starEach es X.env)).any (·.1) = false) : PE X (.Call (.Name x p) (e :: es) [] pos) (TEof T W rt (callD i ps.length dl)) := by
  obtain ⟨k, f, fd, F, hr, hm, hk, hb, _⟩ := F.ex
  refine ⟨fun pins s σ H Q I ⟨ρ, env, mh, rh, rs, w⟩ => ?_⟩
  refine wpAny_Call_Name_kw (ld_glob I hgl hm ?_ hdb)
  refine PySem.W.callWith_K (h₀ := X.base) I.ok.mod.kin hk (thn (ha.run pos pins s σ H _ I (Want.bind rh rs w)) fun us s1 ⟨vs, H1, I1, r, ρ1, mh1, as, e1, rh1, rs1, ra, w1⟩ => ⟨I1.kIn, ?_⟩) he hpl
  obtain ⟨hn, w1⟩ := callM_want w1
  have q : spOf T (rt.call i) ps.length vs H1 Q fun c d H' => W c d σ H' := ⟨by rw [ra.len, hn], ρ1, as, mh1, rh1, ra, w1⟩
  have hl : us.length = ps.length := by rw [← r.length]; exact F.len _ _ _ _ q
  have b := hb s1 us I1.kIn (by rw [List.append_nil]; exact hl)
  rw [List.append_nil] at b
  exact call_of_code (run_fnG F hg hr tk I1 r b q)
theorem kw_core {k : Nat} {f : Addr} {fd : FuncData} {n : Nat} (F : FnG X.prog X.w X.K X.mg X.base k f fd ps (spOf T (rt.call i) ps.length)) (hg : X.A.guards = some []) (hr : Room k X.A) (tk : Takes X W) (hb : KwB X.K fd ps n ks)
    {pins : List (Addr × Obj)} {σ : St} {s : Shared} {H : Hp} {Q : VK} {us ws : List Value} {vs zs : List V} {ρ : List Addr} {env : Env'} {as bs : List MV} {mh : MH} (I : Inv X pins σ H s) (r : Vals vs us) (r2 : Vals zs ws)
    (ra : RVs T ρ H as vs) (rb : RVs T ρ H bs zs) (rh : RH T ρ mh H)
    (w : Want T (RV T) ρ H (fun c dd H' => W c dd σ H') (if Nat.beq as.length n && Nat.beq bs.length ks.length then callM i ps.length (as ++ kwIn (ps.drop n) ks bs) rt env mh else .stuck) Q) :
    wpAny (model X.prog X.w) X.A (call (.ref f) us (ks.zip ws)) (EP X pins σ Q) X.xe s := by
  split at w
  · rename_i hh
    have hh := Bool.and_eq_true_iff.mp hh
    obtain ⟨hn, w1⟩ := callM_want w
    have rr := ra.append (kwIn_rv rb ks (ps.drop n))
    have q : spOf T (rt.call i) ps.length (vs ++ kwIn (ps.drop n) ks zs) H Q fun c d H' => W c d σ H' := ⟨by rw [rr.len, hn], ρ, _, mh, rh, rr, w1⟩
    have l1 : us.length = n := by rw [← r.length, ra.len]; exact Nat.eq_of_beq_eq_true hh.1
    have l2 : ws.length = ks.length := by rw [← r2.length, rb.len]; exact Nat.eq_of_beq_eq_true hh.2
    exact call_of_code (run_fnG F hg hr tk I (r.append (kwIn_vals r2 ks _)) (hb s us ws I.kIn l1 l2) q)
  · exact w.elim
theorem se_callK {n : Nat} (hg : X.A.guards = some []) (tk : Takes X W) (F : FnR T rt X i x ps kws) (hq : (n, ks) ∈ kws) (hgl : Gl X x) (ha : PA X (e :: es) (TAof T W rt dl)) (hkw : PK X kwl (TAof T W rt dk)) (hdb : (x == ("__debug__" : Str)) = false)
    (he : starEach (e :: es) X.env = (false, eval e X.env) :: starEach es X.env) (hall : (backToKw pos (keywordEach kwl X.env)).all (·.1.isSome) = true) (hks : (backToKw pos (keywordEach kwl X.env)).filterMap (·.1) = ks)
    (hpl : ((backTo pos (starEach (e :: es) X.env)).any (·.1) || (backToKw pos (keywordEach kwl X.env)).any (·.1.isNone)) = false) :
    PE X (.Call (.Name x p) (e :: es) kwl pos) (TEof T W rt (callKD i ps.length n (ps.drop n) ks dl dk)) := by
  obtain ⟨k, f, fd, F, hr, hm, hk, _, hb⟩ := F.ex
  refine ⟨fun pins s σ H Q I ⟨ρ, env, mh, rh, rs, w⟩ => ?_⟩
  refine wpAny_Call_Name_kw (ld_glob I hgl hm ?_ hdb)
  refine PySem.W.callWith_KW (h₀ := X.base) I.ok.mod.kin hk hall (thn (ha.run pos pins s σ H _ I (Want.bind rh rs w)) fun us s1 ⟨vs, H1, I1, r, ρ1, mh1, as, e1, rh1, rs1, ra, w1⟩ => ?_) hpl he
  refine thn (hkw.run pos pins s1 σ H1 _ I1 (Want.bind (rel := RVs T) rh1 rs1 w1)) fun ws s2 ⟨zs, H2, I2, r2, ρ2, mh2, bs, e2, rh2, rs2, rb, w2⟩ => ⟨I2.kIn, ?_⟩
  rw [hks]
  exact kw_core F hg hr tk (hb _ hq) I2 r r2 (ra.mono e2) rb rh2 w2
theorem se_callK0 (hg : X.A.guards = some []) (tk : Takes X W) (F : FnR T rt X i x ps kws) (hq : (0, ks) ∈ kws) (hgl : Gl X x) (hkw : PK X kwl (TAof T W rt dk)) (hdb : (x == ("__debug__" : Str)) = false)
    (hall : (backToKw pos (keywordEach kwl X.env)).all (·.1.isSome) = true) (hks : (backToKw pos (keywordEach kwl X.env)).filterMap (·.1) = ks)
    (hpl : ((backTo pos (starEach [] X.env)).any (·.1) || (backToKw pos (keywordEach kwl X.env)).any (·.1.isNone)) = false) :
    PE X (.Call (.Name x p) [] kwl pos) (TEof T W rt (callKD i ps.length 0 (ps.drop 0) ks nilD dk)) := by
  obtain ⟨k, f, fd, F, hr, hm, hk, _, hb⟩ := F.ex
  refine ⟨fun pins s σ H Q I ⟨ρ, env, mh, rh, rs, w⟩ => ?_⟩
  refine wpAny_Call_Name_kw (ld_glob I hgl hm ?_ hdb)
  refine PySem.W.callWith_KW0 (h₀ := X.base) I.ok.mod.kin hk hall ?_ hpl
  have w1 : Want T (RV T) ρ H (fun c dd H' => W c dd σ H') (bnd dk (fun ws rt env mh => if Nat.beq ([] : List MV).length 0 && Nat.beq ws.length ks.length then callM i ps.length ([] ++ kwIn (ps.drop 0) ks ws) rt env mh else .stuck) rt env mh) Q := w
  refine thn (hkw.run pos pins s σ H _ I (Want.bind (rel := RVs T) rh rs w1)) fun ws s2 ⟨zs, H2, I2, r2, ρ2, mh2, bs, e2, rh2, rs2, rb, w2⟩ => ⟨I2.kIn, ?_⟩
  rw [hks]
  exact kw_core F hg hr tk (hb _ hq) I2 .nil r2 .nil rb rh2 w2
end
/-! ### a def's body -/
/-- a body's result -/
def bodyR (b : DS) (np nl : Nat) (rt : Rt) (as : List MV) (mh : MH) : Rs MV := if Nat.beq as.length np then
    match b rt (as.map some ++ List.replicate (nl - np) none) mh with
    | .nx _ h => .ok .non h
    | .rt v h => .ok v h
    | .exc x _ h => .exc x h
    | _ => .stuck
  else .stuck
end Vf
end L2
end
section
/-! VF: statements. -/
namespace L2
namespace Vf
open PySem PySem.Spec PyProof.Rows
section
variable (T : Tx)
def WantS (W : WX) (ρ : List Addr) (H : Hp) (D : Ends) (r : RsS) : Prop := match r with
  | .nx e mh => ∀ σ' ρ' H', Ext ρ H ρ' H' → RH T ρ' mh H' → RSt T ρ' H' e σ' → D.nx σ' H'
  | .bk e mh => ∀ σ' ρ' H', Ext ρ H ρ' H' → RH T ρ' mh H' → RSt T ρ' H' e σ' → D.bk σ' H'
  | .ct e mh => ∀ σ' ρ' H', Ext ρ H ρ' H' → RH T ρ' mh H' → RSt T ρ' H' e σ' → D.ct σ' H'
  | .rt v mh => ∀ x ρ' H', Ext ρ H ρ' H' → RH T ρ' mh H' → RV T ρ' H' v x → D.rt x H'
  | .exc x e mh => ∀ cls dd σ' ρ' H', Ext ρ H ρ' H' → RH T ρ' mh H' → RX T ρ' H' x cls dd → RSt T ρ' H' e σ' → W cls dd σ' H'
  | .stuck => False
def TSof (W : WX) (rt : Rt) (d : DS) : TS := fun D σ H => ∃ ρ env mh, RH T ρ mh H ∧ RSt T ρ H env σ ∧ WantS T W ρ H D (d rt env mh)
/-- a target -/
def WantG (P : St → Prop) (ρ : List Addr) (H : Hp) (r : RsS) (Q : St → Hp → Prop) : Prop := match r with
  | .nx e mh => ∀ σ' ρ' H', P σ' → Ext ρ H ρ' H' → RH T ρ' mh H' → RSt T ρ' H' e σ' → Q σ' H'
  | _ => False
/-- P: what the target leaves of the slots -/
def TGof (P : St → St → Prop) (rt : Rt) (d : DG) : TG := fun x σ H Q => ∃ ρ env mh v, RH T ρ mh H ∧ RSt T ρ H env σ ∧ RV T ρ H v x ∧ WantG T (P σ) ρ H (d rt v env mh) Q
abbrev AnyP : St → St → Prop := fun _ _ => True
abbrev DGs := Rt → List MV → Env' → MH → RsS
def TGsof (P : St → St → Prop) (rt : Rt) (d : DGs) : TGs := fun xs σ H Q => ∃ ρ env mh vs, RH T ρ mh H ∧ RSt T ρ H env σ ∧ RVs T ρ H vs xs ∧ WantG T (P σ) ρ H (d rt vs env mh) Q
/-- what is walked -/
def ItOk (ρ1 : List Addr) (H1 : Hp) (nxt : Nxt) (J : It) : Prop := ∀ i ρ H mh, Ext ρ1 H1 ρ H → RH T ρ mh H →
  (nxt i mh = some none → J.stop i H) ∧ ∀ v, nxt i mh = some (some v) → J.go i H ∧ ∀ x H', J.yld i H x H' → Ext ρ H ρ H' ∧ RH T ρ mh H' ∧ RV T ρ H' v x
abbrev TIof (W : WX) (rt : Rt) (d : DI) : TI := Tof T (ItOk T) W rt d
end
def toS {α : Type} (r : Rs α) (env : Env') (f : α → MH → RsS) : RsS := match r with
  | .ok a mh => f a mh
  | .exc e mh => .exc e env mh
  | .stuck => .stuck
def exprS (d : DE) : DS := fun rt env mh => toS (d rt env mh) env fun _ mh => .nx env mh
def setS (i : Nat) (d : DE) : DS := fun rt env mh => toS (d rt env mh) env fun v mh => .nx (env.set i (some v)) mh
def asgS (d : DE) (g : DG) : DS := fun rt env mh => toS (d rt env mh) env fun v mh => g rt v env mh
def retS (d : DE) : DS := fun rt env mh => toS (d rt env mh) env fun v mh => .rt v mh
def retNS : DS := fun _ _ mh => .rt .non mh
def ifS (c : DB) (a b : DS) : DS := fun rt env mh => toS (c rt env mh) env fun k mh => match k with
  | true => a rt env mh
  | false => b rt env mh
def seqS (a b : DS) : DS := fun rt env mh => match a rt env mh with
  | .nx e h => b rt e h
  | r => r
def passS : DS := fun _ env mh => .nx env mh
def brkS : DS := fun _ env mh => .bk env mh
def ctS : DS := fun _ env mh => .ct env mh
def stuckS : DS := fun _ _ _ => .stuck
def whileL (c : DB) (b : DS) (rt : Rt) : Nat → Env' → MH → RsS
  | 0, _, _ => .stuck
  | n + 1, env, mh => toS (c rt env mh) env fun k mh => match k with
    | false => .nx env mh
    | true => match b rt env mh with
      | .nx e h => whileL c b rt n e h
      | .ct e h => whileL c b rt n e h
      | .bk e h => .nx e h
      | r => r
def whileS (c : DB) (b : DS) : DS := fun rt env mh => whileL c b rt rt.fuel env mh
def forL (nxt : Nxt) (g : DG) (b : DS) (rt : Rt) : Nat → Nat → Env' → MH → RsS
  | 0, _, _, _ => .stuck
  | n + 1, i, env, mh => match nxt i mh with
    | none => .stuck
    | some none => .nx env mh
    | some (some v) => match g rt v env mh with
      | .nx e h => match b rt e h with
        | .nx e h => forL nxt g b rt n (i + 1) e h
        | .ct e h => forL nxt g b rt n (i + 1) e h
        | .bk e h => .nx e h
        | r => r
      | _ => .stuck
def forS (d : DI) (g : DG) (b : DS) : DS := fun rt env mh => toS (d rt env mh) env fun nxt mh => forL nxt g b rt rt.fuel 0 env mh
def nameG (i : Nat) : DG := fun _ v env mh => .nx (env.set i (some v)) mh
def nilG : DGs := fun _ vs env mh => match vs with
  | [] => .nx env mh
  | _ => .stuck
def consG (g : DG) (t : DGs) : DGs := fun rt vs env mh => match vs with
  | [] => .stuck
  | v :: r => match g rt v env mh with
    | .nx e h => t rt r e h
    | _ => .stuck
def tupG (n : Nat) (t : DGs) : DG := fun rt v env mh => match v with
  | .tup xs => if Nat.beq xs.length n then t rt xs env mh else .stuck
  | .pr xs => if Nat.beq xs.length n then t rt xs env mh else .stuck
  | .loc k => match mh[k]? with
    | some (.lst xs) => if Nat.beq xs.length n then t rt xs env mh else .stuck
    | _ => .stuck
  | _ => .stuck
/-- o[i] = v -/
def stIx (o i v : MV) (mh : MH) : Option MH := match o with
  | .loc n => match mh[n]? with
    | some (.lst xs) => match i with
      | .int (.ofNat j) => if Nat.blt j xs.length then some (mh.set n (.lst (xs.set j v))) else none
      | _ => none
    | some (.dct kvs) => if isKeyM i && Nat.blt kvs.length lim then some (mh.set n (.dct (dputM kvs i v))) else none
    | none => none
  | _ => none
def subG (o i : DE) : DG := fun rt v env mh => match o rt env mh with
  | .ok a mh => match i rt env mh with
    | .ok b mh => match stIx a b v mh with
      | some mh => .nx env mh
      | none => .stuck
    | _ => .stuck
  | _ => .stuck
section
variable {T : Tx} {X : Cx} {W : WX} {rt : Rt} {ρ ρ' : List Addr} {H H' : Hp} {D : Ends} {pos : Pos} {e : Expr}
theorem WantS.from {r : RsS} (x : Ext ρ H ρ' H') (l : ∀ a ∈ ρ', H' a ≠ none) (w : WantS T W ρ H D r) : WantS T W ρ' H' D r := by
  cases r with
  | nx e mh => exact fun σ ρ2 H2 e2 => w σ ρ2 H2 (x.trans e2 l)
  | bk e mh => exact fun σ ρ2 H2 e2 => w σ ρ2 H2 (x.trans e2 l)
  | ct e mh => exact fun σ ρ2 H2 e2 => w σ ρ2 H2 (x.trans e2 l)
  | rt v mh => exact fun σ ρ2 H2 e2 => w σ ρ2 H2 (x.trans e2 l)
  | exc v e mh => exact fun c d σ ρ2 H2 e2 => w c d σ ρ2 H2 (x.trans e2 l)
  | stuck => exact w
theorem WantS.bind {α β : Type} {rel : List Addr → Hp → α → β → Prop} {σ : St} {env : Env'} {mh : MH} {d : Rt → Env' → MH → Rs α} {f : α → MH → RsS}
    (rh : RH T ρ mh H) (rs : RSt T ρ H env σ) (w : WantS T W ρ H D (toS (d rt env mh) env f)) :
    Tof T rel W rt d σ H fun b H1 => ∃ ρ1 mh1 a, Ext ρ H ρ1 H1 ∧ RH T ρ1 mh1 H1 ∧ RSt T ρ1 H1 env σ ∧ rel ρ1 H1 a b ∧ WantS T W ρ1 H1 D (f a mh1) := by
  refine ⟨ρ, env, mh, rh, rs, ?_⟩
  cases e : d rt env mh with
  | ok a mh' =>
    rw [e] at w
    exact fun b ρ1 H1 e1 r1 q => ⟨ρ1, mh', a, e1, r1, rs.mono e1, q, WantS.from e1 r1.ne w⟩
  | exc x mh' =>
    rw [e] at w
    exact fun c d ρ1 H1 e1 r1 q => w c d σ ρ1 H1 e1 r1 q (rs.mono e1)
  | stuck =>
    rw [e] at w
    exact w
theorem ss_expr {d : DE} (he : PE X e (TEof T W rt d)) (hs : swapsWith e none pos.line X.env = pure false) : PS X (.Expr e pos) (TSof T W rt (exprS d)) :=
  (ps_expr he hs).imp fun D σ H ⟨ρ, env, mh, rh, rs, w⟩ => (WantS.bind rh rs w).mono fun x H1 ⟨ρ1, mh1, a, e1, rh1, rs1, ra, w1⟩ => w1 σ ρ1 H1 .refl rh1 rs1
theorem ss_ret {d : DE} (he : PE X e (TEof T W rt d)) : PS X (.Return (some e) pos) (TSof T W rt (retS d)) :=
  (ps_ret he).imp fun D σ H ⟨ρ, env, mh, rh, rs, w⟩ => (WantS.bind rh rs w).mono fun x H1 ⟨ρ1, mh1, a, e1, rh1, rs1, ra, w1⟩ => w1 x ρ1 H1 .refl rh1 ra
theorem ss_retN : PS X (.Return none pos) (TSof T W rt retNS) :=
  ps_retN.imp fun D σ H ⟨ρ, env, mh, rh, rs, w⟩ => w .non ρ H .refl rh .non
theorem ss_pass : PS X (.Pass pos) (TSof T W rt passS) := ps_pass.imp fun D σ H ⟨ρ, env, mh, rh, rs, w⟩ => w σ ρ H .refl rh rs
theorem ss_break : PS X (.Break pos) (TSof T W rt brkS) := ps_break.imp fun D σ H ⟨ρ, env, mh, rh, rs, w⟩ => w σ ρ H .refl rh rs
theorem ss_cont : PS X (.Continue pos) (TSof T W rt ctS) := ps_continue.imp fun D σ H ⟨ρ, env, mh, rh, rs, w⟩ => w σ ρ H .refl rh rs
theorem ss_never {st : Stmt} : PS X st (TSof T W rt stuckS) := ps_never.imp fun D σ H ⟨ρ, env, mh, rh, rs, w⟩ => w.elim
theorem sss_nil : PSs X [] (TSof T W rt passS) := pss_nil.imp fun D σ H ⟨ρ, env, mh, rh, rs, w⟩ => w σ ρ H .refl rh rs
theorem sss_cons {st : Stmt} {rest : List Stmt} {a b : DS} (h1 : PS X st (TSof T W rt a)) (h2 : PSs X rest (TSof T W rt b)) : PSs X (st :: rest) (TSof T W rt (seqS a b)) :=
  (pss_cons h1 h2).imp fun D σ H ⟨ρ, env, mh, rh, rs, w⟩ => by
    refine ⟨ρ, env, mh, rh, rs, ?_⟩
    unfold seqS at w
    cases q : a rt env mh with
    | nx e h =>
      rw [q] at w
      exact fun σ' ρ' H' e' rh' rs' => ⟨ρ', e, h, rh', rs', WantS.from e' rh'.ne w⟩
    | rt v h => rw [q] at w; exact w
    | bk e h => rw [q] at w; exact w
    | ct e h => rw [q] at w; exact w
    | exc x e h => rw [q] at w; exact w
    | stuck => rw [q] at w; exact w
theorem ss_if {c : Expr} {a b : List Stmt} {dc : DB} {da db : DS} (hc : PT X c (TTof T W rt dc)) (ha : PSs X a (TSof T W rt da)) (hb : PSs X b (TSof T W rt db)) : PS X (.If c a b pos) (TSof T W rt (ifS dc da db)) :=
  (ps_if hc ha hb).imp fun D σ H ⟨ρ, env, mh, rh, rs, w⟩ => (WantS.bind (rel := fun _ _ a b => a = b) rh rs w).mono fun k H1 ⟨ρ1, mh1, k', e1, rh1, rs1, ra, w1⟩ => by
    subst ra
    cases k' with
    | true => exact iteT ⟨ρ1, env, mh1, rh1, rs1, w1⟩
    | false => exact iteF ⟨ρ1, env, mh1, rh1, rs1, w1⟩
theorem ss_while {c : Expr} {b : List Stmt} {dc : DB} {db : DS} (hp : PassesOwn (model X.prog X.w) X.A X.env X.xe) (hc : PT X c (TTof T W rt dc)) (hb : PSs X b (TSof T W rt db)) : PS X (.While c b [] pos) (TSof T W rt (whileS dc db)) :=
  (ps_while hp hc hb).imp fun D σ H ⟨ρ, env, mh, rh, rs, w⟩ => by
    refine ⟨fun m σ H => ∃ ρ env mh, RH T ρ mh H ∧ RSt T ρ H env σ ∧ WantS T W ρ H D (whileL dc db rt m env mh), ⟨rt.fuel, ρ, env, mh, rh, rs, w⟩, ?_⟩
    rintro m σ H ⟨ρ, env, mh, rh, rs, w⟩
    cases m with
    | zero => exact w.elim
    | succ n =>
      refine (WantS.bind (rel := fun _ _ a b => a = b) rh rs w).mono fun k H1 ⟨ρ1, mh1, k', e1, rh1, rs1, ra, w1⟩ => ?_
      subst ra
      cases k' with
      | false => exact iteF (w1 σ ρ1 H1 .refl rh1 rs1)
      | true =>
        refine iteT ⟨fun σ' H' => ∃ ρ env mh, RH T ρ mh H' ∧ RSt T ρ H' env σ' ∧ WantS T W ρ H' D (whileL dc db rt n env mh), fun σ' H' h => ⟨n, Nat.lt_succ_self n, h⟩, ρ1, env, mh1, rh1, rs1, ?_⟩
        replace w1 : WantS T W ρ1 H1 D (match db rt env mh1 with
          | .nx e h => whileL dc db rt n e h
          | .ct e h => whileL dc db rt n e h
          | .bk e h => .nx e h
          | r => r) := w1
        cases q : db rt env mh1 with
        | nx e h => rw [q] at w1; exact fun σ' ρ' H' e' rh' rs' => ⟨ρ', e, h, rh', rs', WantS.from e' rh'.ne w1⟩
        | ct e h => rw [q] at w1; exact fun σ' ρ' H' e' rh' rs' => ⟨ρ', e, h, rh', rs', WantS.from e' rh'.ne w1⟩
        | bk e h => rw [q] at w1; exact w1
        | rt v h => rw [q] at w1; exact w1
        | exc x e h => rw [q] at w1; exact w1
        | stuck => rw [q] at w1; exact w1
theorem ss_for {tg it : Expr} {b : List Stmt} {di : DI} {dg : DG} {db : DS} (hp : PassesOwn (model X.prog X.w) X.A X.env X.xe) (hc : X.calm = true) (hi : PI X tg it (TIof T W rt di)) (hg : PG X tg (TGof T AnyP rt dg)) (hb : PSs X b (TSof T W rt db))
    (hs : ∀ x, foldedSetIterable it X.env x = pure x) : PS X (.For tg it b [] pos) (TSof T W rt (forS di dg db)) :=
  (ps_for hp hc hi hg hb hs).imp fun D σ H ⟨ρ, env, mh, rh, rs, w⟩ => (WantS.bind (rel := ItOk T) rh rs w).mono fun J H1 ⟨ρ1, mh1, nxt, e1, rh1, rs1, ok, w1⟩ => by
    refine ⟨fun i m σ H => ∃ ρ env mh, Ext ρ1 H1 ρ H ∧ RH T ρ mh H ∧ RSt T ρ H env σ ∧ WantS T W ρ H D (forL nxt dg db rt m i env mh), ⟨rt.fuel, ρ1, env, mh1, .refl, rh1, rs1, w1⟩, ?_⟩
    rintro i m σ H ⟨ρ, env, mh, x1, rh, rs, w⟩
    cases m with
    | zero => exact w.elim
    | succ n =>
      obtain ⟨o1, o2⟩ := ok i ρ H mh x1 rh
      unfold forL at w
      cases q : nxt i mh with
      | none => rw [q] at w; exact w.elim
      | some r =>
        rw [q] at w
        cases r with
        | none => exact .inl ⟨o1 q, w σ ρ H .refl rh rs⟩
        | some v =>
          obtain ⟨g1, g2⟩ := o2 v q
          refine .inr ⟨g1, fun σ' H' => ∃ ρ env mh, Ext ρ1 H1 ρ H' ∧ RH T ρ mh H' ∧ RSt T ρ H' env σ' ∧ WantS T W ρ H' D (forL nxt dg db rt n (i + 1) env mh), fun σ' H' h => ⟨n, Nat.lt_succ_self n, h⟩, fun x H' y => ?_⟩
          obtain ⟨x2, rh2, rv⟩ := g2 x H' y
          refine ⟨ρ, env, mh, v, rh2, rs.mono x2, rv, ?_⟩
          have w2 := WantS.from x2 rh2.ne w
          have x3 := x1.trans x2 rh.ne
          cases q2 : dg rt v env mh with
          | nx e h =>
            have w3 : WantS T W ρ H' D (match db rt e h with
              | .nx e h => forL nxt dg db rt n (i + 1) e h
              | .ct e h => forL nxt dg db rt n (i + 1) e h
              | .bk e h => .nx e h
              | r => r) := by
              dsimp only at w2
              rw [q2] at w2
              exact w2
            intro σ' ρ' H2 _ e' rh' rs'
            refine ⟨ρ', e, h, rh', rs', ?_⟩
            have w4 := WantS.from e' rh'.ne w3
            have x4 := x3.trans e' rh2.ne
            cases q3 : db rt e h with
            | nx e2 h2 => rw [q3] at w4; exact fun σ2 ρ2 H3 e3 rh3 rs3 => ⟨ρ2, e2, h2, x4.trans e3 rh'.ne, rh3, rs3, WantS.from e3 rh3.ne w4⟩
            | ct e2 h2 => rw [q3] at w4; exact fun σ2 ρ2 H3 e3 rh3 rs3 => ⟨ρ2, e2, h2, x4.trans e3 rh'.ne, rh3, rs3, WantS.from e3 rh3.ne w4⟩
            | bk e2 h2 => rw [q3] at w4; exact w4
            | rt v2 h2 => rw [q3] at w4; exact w4
            | exc x2 e2 h2 => rw [q3] at w4; exact w4
            | stuck => rw [q3] at w4; exact w4
          | rt v2 h => dsimp only at w2; rw [q2] at w2; exact w2.elim
          | bk e h => dsimp only at w2; rw [q2] at w2; exact w2.elim
          | ct e h => dsimp only at w2; rw [q2] at w2; exact w2.elim
          | exc x e h => dsimp only at w2; rw [q2] at w2; exact w2.elim
          | stuck => dsimp only at w2; rw [q2] at w2; exact w2.elim
end
end Vf
end L2
end
section
/-! VG: targets, stores, names, tests, displays. -/
namespace L2
namespace Vf
open PySem PySem.Spec PyProof.Rows
/-- the context's names, as they are told: nm the kinds of the names that the text has here -/
structure NmOk (N : List Str) (nm : List (Str × NameKind)) (X : Cx) : Prop where
  N_ : X.N = N
  nd : N.Nodup
  lo : ∀ x, nm.lookup x = some .local → X.env.scope.names.lookup x = some .local
  ce : ∀ x, nm.lookup x = some .cell → X.env.scope.names.lookup x = some .cell
  fr : ∀ x, nm.lookup x = some .free → X.env.scope.names.lookup x = some .free ∨ X.env.scope.names.lookup x = some .cell
  gl : ∀ x, nm.lookup x = some .globalImplicit → X.env.scope.names.lookup x = some .globalImplicit
  fn : ∀ x, nm.lookup x = some .cell → X.fn x = true
def isVis (nm : List (Str × NameKind)) (x : Str) : Bool := match nm.lookup x with
  | some .local => true
  | some .cell => true
  | some .free => true
  | _ => false
def isLoc (nm : List (Str × NameKind)) (x : Str) : Bool := match nm.lookup x with
  | some .local => true
  | some .cell => true
  | _ => false
def isGlo (nm : List (Str × NameKind)) (x : Str) : Bool := match nm.lookup x with
  | some .globalImplicit => true
  | _ => false
section
variable {N : List Str} {nm : List (Str × NameKind)} {X : Cx}
theorem NmOk.vis (o : NmOk N nm X) {x : Str} (h : isVis nm x = true) : Vis X.env.scope x := by
  unfold isVis at h
  split at h
  · rename_i e; exact .inl (o.lo x e)
  · rename_i e; exact .inr (.inl (o.ce x e))
  · rename_i e
    rcases o.fr x e with q | q
    · exact .inr (.inr q)
    · exact .inr (.inl q)
  · cases h
theorem NmOk.loc (o : NmOk N nm X) {x : Str} (h : isLoc nm x = true) : Loc X.env.scope x ∧ (X.fn x = true ∨ X.env.scope.names.lookup x = some .local) := by
  unfold isLoc at h
  split at h
  · rename_i e; exact ⟨.inl (o.lo x e), .inr (o.lo x e)⟩
  · rename_i e; exact ⟨.inr (o.ce x e), .inl (o.fn x e)⟩
  · cases h
theorem NmOk.glo (o : NmOk N nm X) {x : Str} (h : isGlo nm x = true) : Gl X x := by
  unfold isGlo at h
  split at h
  · rename_i e; exact o.gl x e
  · cases h
end
section
variable {T : Tx} {X : Cx} {W : WX} {rt : Rt} {pos : Pos} {e : Expr} {N : List Str} {nm : List (Str × NameKind)}
/-! ### names, constants -/
def varD (i : Nat) : DE := fun _ env mh => match env[i]? with
  | some (some v) => .ok v mh
  | _ => .stuck
def conD (v : MV) : DE := fun _ _ mh => .ok v mh
theorem se_var {i : Nat} {x : Str} (o : NmOk N nm X) (hi : N[i]? = some x) (hv : isVis nm x = true) (hd : (x == ("__debug__" : Str)) = false) (hcd : (x == ("__classdict__" : Str)) = false) : PE X (.Name x pos) (TEof T W rt (varD i)) :=
  (pe_var (by rw [o.N_]; exact hi) (o.vis hv) hd hcd).imp fun σ H Q ⟨ρ, env, mh, rh, rs, w⟩ => by
    unfold varD at w
    split at w
    · rename_i v q
      obtain ⟨u, e1, r⟩ := rs.at_ i v q
      exact ⟨u, e1, w u ρ H .refl rh r⟩
    · exact w.elim
theorem se_con {m : MV} {v : V} {e : Expr} (h : PE X e (tC v)) (r : ∀ ρ H, RV T ρ H m v) : PE X e (TEof T W rt (conD m)) :=
  h.imp fun σ H Q ⟨ρ, env, mh, rh, rs, w⟩ => w v ρ H .refl rh (r ρ H)
theorem se_int {i : Int} {j : Nat} : PE X (.Constant (.int i) j pos) (TEof T W rt (conD (.int i))) := se_con pe_int fun _ _ => .int
theorem se_bl {i : Bool} {j : Nat} : PE X (.Constant (.bool i) j pos) (TEof T W rt (conD (.bl i))) := se_con pe_bl fun _ _ => .bl
theorem se_non {j : Nat} : PE X (.Constant .none j pos) (TEof T W rt (conD .non)) := se_con pe_non fun _ _ => .non
theorem se_str {x : Str} {j : Nat} : PE X (.Constant (.str x) j pos) (TEof T W rt (conD (.str x.cps.toList))) := se_con pe_str fun _ _ => by unfold RV; rw [S_eta]
theorem se_ty {x : Str} {n : Nat} (hg : Gl X x) (hm : X.mg x = none) (hv : bootBuiltins x = some (.type (tyN n))) (hn : x ≠ "__name__") (hd : (x == ("__debug__" : Str)) = false) : PE X (.Name x pos) (TEof T W rt (conD (.ty n))) :=
  se_con (pe_bltn (v := .ty (tyN n)) hg hm hv rfl hn hd) fun _ _ => by unfold RV; rfl
/-! ### tests -/
def boolD (d : DE) : DB := bnd d fun v _ _ mh => match v with
  | .bl b => .ok b mh
  | _ => .stuck
/-- a value's truth -/
def trM : MV → MH → Option Bool
  | .non, _ => some false
  | .bl b, _ => some b
  | .int i, _ => some (!decide (i = 0))
  | .str cs, _ => if Nat.ble cs.length lim then some (!cs.isEmpty) else none
  | .tup xs, _ => some (!xs.isEmpty)
  | .fl xs, _ => some (!xs.isEmpty)
  | .loc n, mh => match mh[n]? with
    | some (.lst xs) => some (!xs.isEmpty)
    | _ => none
  | _, _ => none
def truD (d : DE) : DB := bnd d fun v _ _ mh => match trM v mh with
  | some b => .ok b mh
  | none => .stuck
def andD (a b : DB) : DB := bnd a fun k => match k with
  | true => b
  | false => fun _ _ mh => .ok false mh
def orD (a b : DB) : DB := bnd a fun k => match k with
  | true => fun _ _ mh => .ok true mh
  | false => b
def notD (a : DB) : DB := bnd a fun k _ _ mh => .ok (!k) mh
/-- a test as a value -/
def valD (a : DB) : DE := bnd a fun k _ _ mh => .ok (.bl k) mh
def ifD (c : DB) (a b : DE) : DE := bnd c fun k => match k with
  | true => a
  | false => b
def andV (a : DE) (b : DE) : DE := bnd a fun v => match v with
  | .bl true => b
  | .bl false => fun _ _ mh => .ok (.bl false) mh
  | _ => fun _ _ _ => .stuck
def orV (a : DE) (b : DE) : DE := bnd a fun v => match v with
  | .bl false => b
  | .bl true => fun _ _ mh => .ok (.bl true) mh
  | _ => fun _ _ _ => .stuck
def notV (a : DE) : DE := bnd a fun v _ _ mh => match v with
  | .bl k => .ok (.bl (!k)) mh
  | _ => .stuck
theorem st_val {d : DE} (h : PE X e (TEof T W rt d)) (he : ∀ whole, isTrue e X.env whole = (do let v ← whole; standAt e.pos; holding [v] (truthy v))) : PT X e (TTof T W rt (boolD d)) :=
  (pt_val h he).imp fun σ H Q ⟨ρ, env, mh, rh, rs, w⟩ => (Want.bind rh rs w).mono fun x H1 ⟨ρ1, mh1, a, e1, rh1, rs1, ra, w1⟩ => by
    cases a <;> first | exact w1.elim | skip
    rename_i b
    unfold RV at ra; subst ra
    exact ⟨b, rfl, w1 b ρ1 H1 .refl rh1 rfl⟩
theorem RVs.emp {ρ : List Addr} {H : Hp} {xs : List MV} {vs : List V} (r : RVs T ρ H xs vs) : vs.isEmpty = xs.isEmpty := by
  cases xs with
  | nil => unfold RVs at r; subst r; rfl
  | cons x xs => unfold RVs at r; obtain ⟨v, r', rfl, _⟩ := r; rfl
theorem trM_ok {ρ : List Addr} {H : Hp} {mh : MH} {m : MV} {x : V} {b : Bool} (rh : RH T ρ mh H) (ra : RV T ρ H m x) (q : trM m mh = some b) : TruV T.K x H b := by
  unfold trM at q
  split at q
  · cases q; unfold RV at ra; subst ra; rfl
  · cases q; unfold RV at ra; subst ra; rfl
  · rename_i i
    cases q; unfold RV at ra; subst ra
    show (!decide (i = 0)) = (i != 0)
    cases hi : decide (i = 0) with
    | true => have := of_decide_eq_true hi; subst this; rfl
    | false => have := of_decide_eq_false hi; simp [this]
  · rename_i cs
    split at q
    · rename_i hz
      cases q; unfold RV at ra; subst ra
      refine ⟨by rw [S_len, ← lim_eq]; exact Nat.le_of_ble_eq_true hz, ?_⟩
      rw [S_len]
      cases cs with
      | nil => rfl
      | cons c cs => simp; omega
    · cases q
  · cases q; unfold RV at ra
    obtain ⟨p, vs, rfl, t1, r1⟩ := ra
    exact .inr (.inl ⟨vs, t1.sq, by rw [r1.emp]⟩)
  · cases q; unfold RV at ra
    obtain ⟨p, vs, rfl, t1, r1⟩ := ra
    exact .inl ⟨vs, t1.sq, by rw [r1.emp]⟩
  · split at q
    · cases q
      obtain ⟨p, vs, rfl, g1, h1, r1⟩ := loc_lst rh ra (by assumption)
      exact .inl ⟨vs, SqL.of h1, by rw [r1.emp]⟩
    · cases q
  · cases q
theorem st_tru {d : DE} (hK : X.K = T.K) (h : PE X e (TEof T W rt d)) (he : ∀ whole, isTrue e X.env whole = (do let v ← whole; standAt e.pos; holding [v] (truthy v))) : PT X e (TTof T W rt (truD d)) :=
  (pt_truth h he).imp fun σ H Q ⟨ρ, env, mh, rh, rs, w⟩ => (Want.bind rh rs w).mono fun x H1 ⟨ρ1, mh1, a, e1, rh1, rs1, ra, w1⟩ => by
    cases q : trM a mh1 with
    | none => rw [q] at w1; exact w1.elim
    | some b =>
      rw [q] at w1
      exact ⟨b, by rw [hK]; exact trM_ok rh1 ra q, w1 b ρ1 H1 .refl rh1 rfl⟩
theorem sw_and1 {a : Expr} {da : DB} (ha : PT X a (TTof T W rt da)) : PW X (.BoolOp .And [a] pos) (TTof T W rt da) := pw_and1 ha
theorem sw_or1 {a : Expr} {da : DB} (ha : PT X a (TTof T W rt da)) : PW X (.BoolOp .Or [a] pos) (TTof T W rt da) := pw_or1 ha
theorem sw_and {a b : Expr} {r : List Expr} {da db : DB} (ha : PT X a (TTof T W rt da)) (hb : PW X (.BoolOp .And (b :: r) pos) (TTof T W rt db)) : PW X (.BoolOp .And (a :: b :: r) pos) (TTof T W rt (andD da db)) :=
  (pw_and ha hb).imp fun σ H Q ⟨ρ, env, mh, rh, rs, w⟩ => (Want.bind (rel := fun _ _ a b => a = b) rh rs w).mono fun k H1 ⟨ρ1, mh1, k', e1, rh1, rs1, ra, w1⟩ => by
    subst ra
    cases k' with
    | true => exact iteT ⟨ρ1, env, mh1, rh1, rs1, w1⟩
    | false => exact iteF (w1 _ ρ1 H1 .refl rh1 rfl)
theorem sw_or {a b : Expr} {r : List Expr} {da db : DB} (ha : PT X a (TTof T W rt da)) (hb : PW X (.BoolOp .Or (b :: r) pos) (TTof T W rt db)) : PW X (.BoolOp .Or (a :: b :: r) pos) (TTof T W rt (orD da db)) :=
  (pw_or ha hb).imp fun σ H Q ⟨ρ, env, mh, rh, rs, w⟩ => (Want.bind (rel := fun _ _ a b => a = b) rh rs w).mono fun k H1 ⟨ρ1, mh1, k', e1, rh1, rs1, ra, w1⟩ => by
    subst ra
    cases k' with
    | true => exact iteT (w1 _ ρ1 H1 .refl rh1 rfl)
    | false => exact iteF ⟨ρ1, env, mh1, rh1, rs1, w1⟩
theorem st_not {a : Expr} {da : DB} (ha : PT X a (TTof T W rt da)) : PT X (.UnaryOp .Not a pos) (TTof T W rt (notD da)) :=
  (pt_not ha).imp fun σ H Q ⟨ρ, env, mh, rh, rs, w⟩ => (Want.bind (rel := fun _ _ a b => a = b) rh rs w).mono fun k H1 ⟨ρ1, mh1, k', e1, rh1, rs1, ra, w1⟩ => by
    subst ra
    exact w1 _ ρ1 H1 .refl rh1 rfl
theorem se_one {op : BoolOp} {a : Expr} {d : DE} (h : PE X a (TEof T W rt d)) : PE X (.BoolOp op [a] pos) (TEof T W rt d) := pe_one h
theorem se_and {a b : Expr} {r : List Expr} {da db : DE} (ha : PE X a (TEof T W rt da)) (hb : PE X (.BoolOp .And (b :: r) pos) (TEof T W rt db)) : PE X (.BoolOp .And (a :: b :: r) pos) (TEof T W rt (andV da db)) :=
  (pe_and ha hb).imp fun σ H Q ⟨ρ, env, mh, rh, rs, w⟩ => (Want.bind rh rs w).mono fun x H1 ⟨ρ1, mh1, a, e1, rh1, rs1, ra, w1⟩ => by
    cases a <;> first | exact w1.elim | skip
    rename_i k
    unfold RV at ra; subst ra
    refine ⟨k, rfl, ?_⟩
    cases k with
    | true => exact iteT ⟨ρ1, env, mh1, rh1, rs1, w1⟩
    | false => exact iteF (w1 _ ρ1 H1 .refl rh1 .bl)
theorem se_or {a b : Expr} {r : List Expr} {da db : DE} (ha : PE X a (TEof T W rt da)) (hb : PE X (.BoolOp .Or (b :: r) pos) (TEof T W rt db)) : PE X (.BoolOp .Or (a :: b :: r) pos) (TEof T W rt (orV da db)) :=
  (pe_or ha hb).imp fun σ H Q ⟨ρ, env, mh, rh, rs, w⟩ => (Want.bind rh rs w).mono fun x H1 ⟨ρ1, mh1, a, e1, rh1, rs1, ra, w1⟩ => by
    cases a <;> first | exact w1.elim | skip
    rename_i k
    unfold RV at ra; subst ra
    refine ⟨k, rfl, ?_⟩
    cases k with
    | true => exact iteT (w1 _ ρ1 H1 .refl rh1 .bl)
    | false => exact iteF ⟨ρ1, env, mh1, rh1, rs1, w1⟩
theorem se_not {a : Expr} {da : DE} (ha : PE X a (TEof T W rt da)) : PE X (.UnaryOp .Not a pos) (TEof T W rt (notV da)) :=
  (pe_not ha).imp fun σ H Q ⟨ρ, env, mh, rh, rs, w⟩ => (Want.bind rh rs w).mono fun x H1 ⟨ρ1, mh1, a, e1, rh1, rs1, ra, w1⟩ => by
    cases a <;> first | exact w1.elim | skip
    rename_i k
    unfold RV at ra; subst ra
    exact ⟨k, rfl, w1 _ ρ1 H1 .refl rh1 .bl⟩
theorem se_if {c a b : Expr} {dc : DB} {da db : DE} (hc : PT X c (TTof T W rt dc)) (ha : PE X a (TEof T W rt da)) (hb : PE X b (TEof T W rt db)) : PE X (.IfExp c a b pos) (TEof T W rt (ifD dc da db)) :=
  (pe_ifExp hc ha hb).imp fun σ H Q ⟨ρ, env, mh, rh, rs, w⟩ => (Want.bind (rel := fun _ _ a b => a = b) rh rs w).mono fun k H1 ⟨ρ1, mh1, k', e1, rh1, rs1, ra, w1⟩ => by
    subst ra
    cases k' with
    | true => exact iteT ⟨ρ1, env, mh1, rh1, rs1, w1⟩
    | false => exact iteF ⟨ρ1, env, mh1, rh1, rs1, w1⟩
/-! ### displays -/
def tupM : PN := fun as mh => if Nat.ble as.length lim then some (.tup as, mh) else none
def lstM : PN := fun as mh => if Nat.ble as.length lim then some (.loc mh.length, mh ++ [.lst as]) else none
theorem se_tup {es : List Expr} {k : Nat} {dl : DL} (h : PA X es (TAof T W rt dl)) : PE X (.Tuple es k pos) (TEof T W rt (opND tupM dl)) :=
  (pe_tupF h).imp fun σ H Q ⟨ρ, env, mh, rh, rs, w⟩ => (Want.bind rh rs w).mono fun xs H1 ⟨ρ1, mh1, as, e1, rh1, rs1, ra, w1⟩ => by
    obtain ⟨m, mh2, hp, k⟩ := lft_want w1
    unfold tupM at hp
    split at hp
    · rename_i hz
      cases hp
      exact ⟨by rw [ra.len, ← lim_eq]; exact Nat.le_of_ble_eq_true hz, k.tup rh1 ra⟩
    · cases hp
theorem se_lst {es : List Expr} {dl : DL} (h : PA X es (TAof T W rt dl)) : PE X (.List es pos) (TEof T W rt (opND lstM dl)) :=
  (pe_lst h).imp fun σ H Q ⟨ρ, env, mh, rh, rs, w⟩ => (Want.bind rh rs w).mono fun xs H1 ⟨ρ1, mh1, as, e1, rh1, rs1, ra, w1⟩ => by
    obtain ⟨m, mh2, hp, k⟩ := lft_want w1
    unfold lstM at hp
    split at hp
    · rename_i hz
      cases hp
      exact ⟨by rw [ra.len, ← lim_eq]; exact Nat.le_of_ble_eq_true hz, fun p hn => k.lst rh1 ra hn⟩
    · cases hp
/-! ### targets -/
variable {P : St → St → Prop}
theorem sg_name {i : Nat} {x : Str} (o : NmOk N nm X) (hi : N[i]? = some x) (hx : isLoc nm x = true) (hP : ∀ σ v, P σ (σ.set i (some v))) : PG X (.Name x pos) (TGof T P rt (nameG i)) := by
  obtain ⟨l1, l2⟩ := o.loc hx
  refine ⟨fun pins s σ H v u Q I r ⟨ρ, env, mh, m, rh, rs, rv, w⟩ => ?_⟩
  exact (pg_name (by rw [o.N_]; exact o.nd) (by rw [o.N_]; exact hi) l1 l2).run pins s σ H v u Q I r (w _ ρ H (hP _ _) .refl rh (rs.set i rv))
theorem sgs_nil (hP : ∀ σ, P σ σ) : PGs X [] (TGsof T P rt nilG) := ⟨fun pins s σ H vs us Q I r ⟨ρ, env, mh, ms, rh, rs, rv, w⟩ => pgs_nil.run pins s σ H vs us Q I r (by
  cases ms with
  | nil =>
    unfold RVs at rv
    exact ⟨rv, w σ ρ H (hP σ) .refl rh rs⟩
  | cons m ms => exact w.elim)⟩
theorem sgs_cons {e : Expr} {es : List Expr} {g : DG} {t : DGs} (hP : ∀ a b c, P a b → P b c → P a c) (h1 : PG X e (TGof T P rt g)) (h2 : PGs X es (TGsof T P rt t)) (hs : (assignEach (e :: es) X.env).map (·.2) = assign e X.env :: (assignEach es X.env).map (·.2)) : PGs X (e :: es) (TGsof T P rt (consG g t)) :=
  ⟨fun pins s σ H vs us Q I r ⟨ρ, env, mh, ms, rh, rs, rv, w⟩ => (pgs_cons h1 h2 hs).run pins s σ H vs us Q I r (by
  cases ms with
  | nil => exact w.elim
  | cons m ms =>
    unfold RVs at rv
    obtain ⟨v, vr, rfl, r1, r2⟩ := rv
    refine ⟨v, vr, rfl, ρ, env, mh, m, rh, rs, r1, ?_⟩
    unfold consG at w
    cases q : g rt m env mh with
    | nx e h =>
      dsimp only at w
      rw [q] at w
      intro σ' ρ' H' p1 e' rh' rs'
      refine ⟨ρ', e, h, ms, rh', rs', r2.mono e', ?_⟩
      dsimp only at w
      cases q2 : t rt ms e h with
      | nx e2 h2 => rw [q2] at w; exact fun σ2 ρ2 H2 p2 x2 => w σ2 ρ2 H2 (hP _ _ _ p1 p2) (e'.trans x2 rh'.ne)
      | _ => rw [q2] at w; exact w.elim
    | _ => dsimp only at w; rw [q] at w; exact w.elim)⟩
theorem sg_tup {es : List Expr} {k n : Nat} {t : DGs} (hK : X.K = T.K) (hc : X.calm = true) (h : PGs X es (TGsof T P rt t)) (hn : (assignEach es X.env).length = n) (hst : (assignEach es X.env).findIdx? (·.1) = none) : PG X (.Tuple es k pos) (TGof T P rt (tupG n t)) :=
  ⟨fun pins s σ H v u Q I r ⟨ρ, env, mh, m, rh, rs, rv, w⟩ => (by
  unfold tupG at w
  split at w
  · refine (pg_tup hc h hn hst).run pins s σ H v u Q I r ?_
    split at w
    · rename_i hl
      unfold RV at rv
      obtain ⟨a, vs, rfl, t1, r1⟩ := rv
      exact ⟨a, vs, rfl, by rw [hK]; exact t1.sq, by rw [r1.len]; exact Nat.eq_of_beq_eq_true hl, ρ, env, mh, _, rh, rs, r1, w⟩
    · exact w.elim
  · refine (pg_tup hc h hn hst).run pins s σ H v u Q I r ?_
    split at w
    · rename_i hl
      unfold RV at rv
      obtain ⟨a, vs, rfl, t1, r1⟩ := rv
      exact ⟨a, vs, rfl, .inl (.of t1.1), by rw [r1.len]; exact Nat.eq_of_beq_eq_true hl, ρ, env, mh, _, rh, rs, r1, w⟩
    · exact w.elim
  · refine (pg_unl hc h hn hst).run pins s σ H v u Q I r ?_
    split at w
    · rename_i xs ex
      split at w
      · rename_i hl
        obtain ⟨p, vs, rfl, g1, h1, r1⟩ := loc_lst rh rv ex
        exact ⟨p, vs, rfl, SqL.of h1, by rw [r1.len]; exact Nat.eq_of_beq_eq_true hl, ρ, env, mh, _, rh, rs, r1, w⟩
      · exact w.elim
    · exact w.elim
  · exact w.elim)⟩
def rSet2 : V → V → V → Hp → (Hp → Prop) → Prop := fun o i v H Q => rSetL o i v H Q ∨ ∃ (p : Addr) (l : List (Key × V)) (k : Key), o = .ref p ∧ i = kV k ∧ H p = some (.dK l) ∧ l.length < sizeLine ∧ Q (upd H p (.dK (putK l k v)))
theorem set_any {X : Cx} (hu : X.A.units + 1 < cLine) : PSet X rSet2 := by
  intro pins s σ H o i v ov iv u Q I ro ri rv h
  rcases h with h | ⟨p, l, k, eo, ei, e, hl, q⟩
  · exact set_list pins s σ H o i v ov iv u Q I ro ri rv h
  · subst eo ei
    obtain rfl : ov = Value.ref p := ro
    exact d_setItem hu I (.k e hl) ri rv fun s' I' => ⟨_, I', q⟩
theorem stIx_ok {ρ : List Addr} {H : Hp} {mh mh' : MH} {a b m : MV} {x y z : V} (rh : RH T ρ mh H) (ra : RV T ρ H a x) (rb : RV T ρ H b y) (rv : RV T ρ H m z) (q : stIx a b m mh = some mh') {Q : Hp → Prop} (hQ : ∀ H', Ext ρ H ρ H' → RH T ρ mh' H' → Q H') : rSet2 x y z H Q := by
  unfold stIx at q
  split at q
  · rename_i n
    split at q
    · rename_i xs ex
      split at q
      · rename_i j
        split at q
        · rename_i hl
          cases q
          obtain ⟨p, vs, rfl, g1, h1, r1⟩ := loc_lst rh ra ex
          unfold RV at rb; subst rb
          have hl : j + 1 ≤ xs.length := Nat.le_of_ble_eq_true hl
          obtain ⟨e3, rh3⟩ := rh.put (ho := .lst (vs.set j z)) (o := .lst (xs.set j m)) g1 ⟨_, rfl, r1.set j rv⟩
          exact .inl ⟨p, vs, _, j, rfl, rfl, h1, ixN_of (.inl ⟨Int.natCast_nonneg j, rfl, by rw [r1.len]; omega⟩), hQ _ e3 rh3⟩
        · cases q
      · cases q
    · rename_i kvs ex
      split at q
      · rename_i hc
        cases q
        have hc := Bool.and_eq_true_iff.mp hc
        unfold RV at ra
        obtain ⟨p, rfl, g1⟩ := ra
        obtain ⟨l, e2, rk⟩ := rh.ob _ p _ g1 ex
        obtain ⟨k, rfl, rfl⟩ := key_of_is hc.1 rb
        have hl : kvs.length + 1 ≤ lim := Nat.le_of_ble_eq_true hc.2
        obtain ⟨e3, rh3⟩ := rh.put (ho := .dK (putK l k z)) (o := .dct (dputM kvs (keyM k) m)) g1 ⟨_, rfl, rk.put k rv⟩
        exact .inr ⟨p, l, k, rfl, rfl, e2, by rw [rk.len, ← lim_eq]; exact hl, hQ _ e3 rh3⟩
      · cases q
    · cases q
  · cases q
theorem sg_sub {o i : Expr} {d1 d2 : DE} (hu : X.A.units + 1 < cLine) (hP : ∀ σ, P σ σ) (ho : PE X o (TEof T W rt d1)) (hi : PE X i (TEof T W rt d2)) (ha : ∀ v, assign (.Subscript o i pos) X.env v = (do
      let ov ← holding [v] (eval o X.env)
      let iv ← holding [v, ov] (eval i X.env)
      standAt pos
      holding [v, ov, iv] (setItem ov iv v)
      release [v, ov, iv] [])) : PG X (.Subscript o i pos) (TGof T P rt (subG d1 d2)) :=
  ⟨fun pins s σ H v u Q I r ⟨ρ, env, mh, m, rh, rs, rv, w⟩ => (pg_sub ho hi (set_any hu) ha).run pins s σ H v u Q I r (by
  unfold subG at w
  refine ⟨ρ, env, mh, rh, rs, ?_⟩
  cases q1 : d1 rt env mh with
  | ok a mh1 =>
    rw [q1] at w
    intro x ρ1 H1 e1 rh1 ra
    refine ⟨ρ1, env, mh1, rh1, rs.mono e1, ?_⟩
    dsimp only at w
    cases q2 : d2 rt env mh1 with
    | ok b mh2 =>
      rw [q2] at w
      dsimp only at w
      intro y ρ2 H2 e2 rh2 rb
      have x2 := e1.trans e2 rh1.ne
      cases q3 : stIx a b m mh2 with
      | none => rw [q3] at w; exact w.elim
      | some mh3 =>
        rw [q3] at w
        exact stIx_ok rh2 (ra.mono e2) rb ((rv.mono e1).mono e2) q3 fun H' e3 rh3 => w _ ρ2 _ (hP _) (x2.trans e3 rh2.ne) rh3 ((rs.mono x2).mono e3)
    | exc x mh2 => rw [q2] at w; exact w.elim
    | stuck => rw [q2] at w; exact w.elim
  | exc x mh1 => rw [q1] at w; exact w.elim
  | stuck => rw [q1] at w; exact w.elim)⟩
/-! ### stores -/
theorem ss_set {i : Nat} {x : Str} {pos' : Pos} {d : DE} (o : NmOk N nm X) (hi : N[i]? = some x) (hx : isLoc nm x = true) (he : PE X e (TEof T W rt d)) (hs : swapsWith e (some (.Name x pos')) pos.line X.env = pure false) :
    PS X (.Assign [.Name x pos'] e pos) (TSof T W rt (setS i d)) := by
  obtain ⟨l1, l2⟩ := o.loc hx
  exact (ps_set (by rw [o.N_]; exact o.nd) (by rw [o.N_]; exact hi) l1 he hs l2).imp fun D σ H ⟨ρ, env, mh, rh, rs, w⟩ => (WantS.bind rh rs w).mono fun x H1 ⟨ρ1, mh1, a, e1, rh1, rs1, ra, w1⟩ => w1 _ ρ1 H1 .refl rh1 (rs1.set i ra)
theorem ss_asg {tg : Expr} {d : DE} {g : DG} (he : PE X e (TEof T W rt d)) (hg : PG X tg (TGof T AnyP rt g)) (hs : swapsWithSole [tg] e pos.line X.env = pure false) (hw : swappedStores [tg] e X.env = pure none)
    (h1 : (assignEach [tg] X.env).map (·.2) = [assign tg X.env]) (hn : ∀ rt v env mh, (∃ e h, g rt v env mh = .nx e h) ∨ g rt v env mh = .stuck) : PS X (.Assign [tg] e pos) (TSof T W rt (asgS d g)) :=
  (ps_asg he hg hs hw h1).imp fun D σ H ⟨ρ, env, mh, rh, rs, w⟩ => (WantS.bind rh rs w).mono fun x H1 ⟨ρ1, mh1, a, e1, rh1, rs1, ra, w1⟩ => by
    refine ⟨ρ1, env, mh1, a, rh1, rs1, ra, ?_⟩
    rcases hn rt a env mh1 with ⟨e, h, q⟩ | q
    · rw [q] at w1 ⊢; exact fun σ' ρ' H' _ => w1 σ' ρ' H'
    · rw [q] at w1; exact w1.elim
/-- a, b = x, y by plain names -/
def par2S (i j : Nat) (dl : DL) : DS := fun rt env mh => toS (dl rt env mh) env fun vs mh => match vs with
  | [v, w] => .nx ((env.set i (some v)).set j (some w)) mh
  | _ => .stuck
def par3S (i j l : Nat) (dl : DL) : DS := fun rt env mh => toS (dl rt env mh) env fun vs mh => match vs with
  | [u, v, w] => .nx (((env.set i (some u)).set j (some v)).set l (some w)) mh
  | _ => .stuck
theorem ss_par2 {i j : Nat} {x y : Str} {a b : Expr} {px py pt pt2 : Pos} {kt k2 : Nat} {dl : DL} (hc : X.calm = true) (o : NmOk N nm X) (hi : N[i]? = some x) (hj : N[j]? = some y) (hij : i ≠ j) (hx : nm.lookup x = some .local) (hy : nm.lookup y = some .local)
    (ha : PA X [a, b] (TAof T W rt dl)) (hw : swappedStores [.Tuple [.Name x px, .Name y py] kt pt] (.Tuple [a, b] k2 pt2) X.env = pure (some [x, y])) (hs : swapsWithSole [.Tuple [.Name x px, .Name y py] kt pt] (.Tuple [a, b] k2 pt2) pos.line X.env = pure false) :
    PS X (.Assign [.Tuple [.Name x px, .Name y py] kt pt] (.Tuple [a, b] k2 pt2) pos) (TSof T W rt (par2S i j dl)) :=
  (ps_par hc (by rw [o.N_]; exact o.nd) (by rw [o.N_]; exact hi) (by rw [o.N_]; exact hj) hij (o.lo x hx) (o.lo y hy) ha hw hs).imp fun D σ H ⟨ρ, env, mh, rh, rs, w⟩ => (WantS.bind (rel := RVs T) rh rs w).mono fun xs H1 ⟨ρ1, mh1, as, e1, rh1, rs1, ra, w1⟩ => by
    split at w1
    · obtain ⟨v, u, rfl, r1, r2⟩ := ra.two
      exact ⟨v, u, rfl, w1 _ ρ1 H1 .refl rh1 ((rs1.set i r1).set j r2)⟩
    · exact w1.elim
theorem ss_par3 {i j l : Nat} {x y z : Str} {a b c : Expr} {px py pz pt pt2 : Pos} {kt k2 : Nat} {dl : DL} (hc : X.calm = true) (o : NmOk N nm X) (hi : N[i]? = some x) (hj : N[j]? = some y) (hl : N[l]? = some z) (hij : i ≠ j) (hil : i ≠ l) (hjl : j ≠ l)
    (hx : nm.lookup x = some .local) (hy : nm.lookup y = some .local) (hz : nm.lookup z = some .local)
    (ha : PA X [a, b, c] (TAof T W rt dl)) (hw : swappedStores [.Tuple [.Name x px, .Name y py, .Name z pz] kt pt] (.Tuple [a, b, c] k2 pt2) X.env = pure (some [x, y, z])) (hs : swapsWithSole [.Tuple [.Name x px, .Name y py, .Name z pz] kt pt] (.Tuple [a, b, c] k2 pt2) pos.line X.env = pure false) :
    PS X (.Assign [.Tuple [.Name x px, .Name y py, .Name z pz] kt pt] (.Tuple [a, b, c] k2 pt2) pos) (TSof T W rt (par3S i j l dl)) :=
  (ps_par3 hc (by rw [o.N_]; exact o.nd) (by rw [o.N_]; exact hi) (by rw [o.N_]; exact hj) (by rw [o.N_]; exact hl) hij hil hjl (o.lo x hx) (o.lo y hy) (o.lo z hz) ha hw hs).imp fun D σ H ⟨ρ, env, mh, rh, rs, w⟩ => (WantS.bind (rel := RVs T) rh rs w).mono fun xs H1 ⟨ρ1, mh1, as, e1, rh1, rs1, ra, w1⟩ => by
    split at w1
    · unfold RVs at ra
      obtain ⟨v1, r, rfl, r1, ra⟩ := ra
      obtain ⟨v2, v3, rfl, r2, r3⟩ := ra.two
      exact ⟨v1, v2, v3, rfl, w1 _ ρ1 H1 .refl rh1 (((rs1.set i r1).set j r2).set l r3)⟩
    · exact w1.elim
end
end Vf
end L2
end
section
/-! VH0: enumerate, zip over lists, tuples, texts. -/
namespace L2
namespace Vf
open PySem PySem.Spec PyProof.Rows
/-- what is drawn from -/
inductive Src where
  | l (a : Addr) | t (a : Addr) | s (z : Str)
def Src.at_ (K : PySem.W.Frag) (H : Hp) : Src → Nat → V → Prop
  | .l a, i, x => ∃ xs, SqL K H a xs ∧ xs[i]? = some x
  | .t a, i, x => ∃ xs, SqT K H a xs ∧ xs[i]? = some x
  | .s z, i, x => ∃ c, z.cps[i]? = some c ∧ x = .str ⟨#[c]⟩
/-- the same, told of whatever stands there -/
def Src.all_ (K : PySem.W.Frag) (H : Hp) : Src → Nat → V → Prop
  | .l a, i, x => ∀ xs, SqL K H a xs → xs[i]? = some x
  | .t a, i, x => ∀ xs, SqT K H a xs → xs[i]? = some x
  | .s z, i, x => ∃ c, z.cps[i]? = some c ∧ x = .str ⟨#[c]⟩
def Src.size (K : PySem.W.Frag) (H : Hp) : Src → Nat → Prop
  | .l a, n => ∃ xs, SqL K H a xs ∧ xs.length = n
  | .t a, n => ∃ xs, SqT K H a xs ∧ xs.length = n
  | .s z, n => z.cps.size = n
def Src.adr : Src → List Addr
  | .l a => [a]
  | .t a => [a]
  | .s _ => []
def Src.itn (it : Addr) : Src → Nat → Heap → Prop
  | .l a, i, h => h.IsListIter it a i
  | .t a, i, h => h.IsTupleIter it a i
  | .s z, i, h => ∃ t, h.IsStrIter it (strIterType z) z t i
/-- the value that the source is -/
def Src.of (K : PySem.W.Frag) (H : Hp) (x : V) : Src → Prop
  | .l a => x = .ref a ∧ ∃ xs, SqL K H a xs
  | .t a => x = .ref a ∧ ∃ xs, SqT K H a xs
  | .s z => x = .str z
section
variable {X : Cx} {pins : List (Addr × Obj)} {σ : L2.St} {H : Hp} {s : Shared} {it : Addr} {i : Nat}
theorem Src.itn_obj {src : Src} {h : Heap} (st : src.itn it i h) : ∃ o, h.get? it = some o ∧ ∀ v, o.data ≠ .cell v := by
  cases src with
  | l a => obtain ⟨o, e, _, d⟩ := st; exact ⟨o, e, fun v q => by rw [d] at q; cases q⟩
  | t a => obtain ⟨o, e, _, d⟩ := st; exact ⟨o, e, fun v q => by rw [d] at q; cases q⟩
  | s z => obtain ⟨t, o, e, _, d⟩ := st; exact ⟨o, e, fun v q => by rw [d] at q; cases q⟩
theorem Src.itn_keep {src : Src} {h h' : Heap} (st : src.itn it i h) (k : ∀ o, h.get? it = some o → h'.get? it = some o) : src.itn it i h' := by
  cases src with
  | l a => obtain ⟨o, e, r⟩ := st; exact ⟨o, k o e, r⟩
  | t a => obtain ⟨o, e, r⟩ := st; exact ⟨o, k o e, r⟩
  | s z => obtain ⟨t, o, e, r⟩ := st; exact ⟨t, o, k o e, r⟩
theorem Src.all_of {src : Src} {x : V} (I : Inv X pins σ H s) (h : src.at_ X.K H i x) : src.all_ X.K H i x := by
  cases src with
  | l a => obtain ⟨xs, hq, hx⟩ := h; exact fun ys hy => by rw [I.list_inj hy hq]; exact hx
  | t a => obtain ⟨xs, hq, hx⟩ := h; exact fun ys hy => by rw [I.tuple_inj hy hq]; exact hx
  | s z => exact h
theorem Src.draws {src : Src} {n : Nat} (I : Inv X pins σ H s) (hc : X.calm = true) (hne : it ∉ src.adr) (st : src.itn it i s.heap) (hs : src.size X.K H n) :
    ∃ (Pv : Nat → Value → Prop) (St : Nat → Heap → Prop), Draws X.prog X.w X.A.in1 it (it :: src.adr) n Pv St ∧ St i s.heap ∧ (∀ j v x, Pv j v → src.at_ X.K H j x → RelV x v) ∧ ∀ j h, St j h → src.itn it j h := by
  cases src with
  | l a =>
    obtain ⟨xs, hq, hl⟩ := hs
    obtain ⟨its, rv, p, hz⟩ := I.list hq
    have hlen := rv.length
    have D := Draws.list (prog := X.prog) (w := X.w) (A := X.A.in1) (I.ok.hd hc) it a (fun e => hne (by subst e; exact List.mem_cons_self)) its.toArray
    rw [List.size_toArray, ← hlen, hl] at D
    refine ⟨_, _, D, ⟨st, p.isList⟩, fun j v x hv ⟨ys, hy, hx⟩ => ?_, fun j h q => q.1⟩
    rw [I.list_inj hy hq] at hx
    obtain ⟨u, hu, ru⟩ := rv.get hx
    have e : its[j]? = some v := by simpa using hv
    rw [hu] at e; cases e
    exact ru
  | t a =>
    obtain ⟨xs, hq, hl⟩ := hs
    obtain ⟨its, rv, p, hz⟩ := I.tuple hq
    have hlen := rv.length
    have D := Draws.tuple (prog := X.prog) (w := X.w) (A := X.A.in1) (I.ok.hd hc) it a (fun e => hne (by subst e; exact List.mem_cons_self)) its.toArray
    rw [List.size_toArray, ← hlen, hl] at D
    refine ⟨_, _, D, ⟨st, (show s.heap.IsTuple a its.toArray from p)⟩, fun j v x hv ⟨ys, hy, hx⟩ => ?_, fun j h q => q.1⟩
    rw [I.tuple_inj hy hq] at hx
    obtain ⟨u, hu, ru⟩ := rv.get hx
    have e : its[j]? = some v := by simpa using hv
    rw [hu] at e; cases e
    exact ru
  | s z =>
    obtain ⟨t, st⟩ := st
    have D := Draws.text (prog := X.prog) (w := X.w) (A := X.A.in1) (I.ok.hd hc) it z t
    have hs : z.cps.size = n := hs
    rw [hs] at D
    refine ⟨_, _, D, st, fun j v x ⟨c, u, hc', hv⟩ ⟨c', hc2, hx⟩ => ?_, fun j h q => ⟨t, q⟩⟩
    rw [hc'] at hc2; cases hc2
    subst hx hv
    exact ⟨u, rfl⟩
/-- iter(v) of a source -/
theorem Src.begins {src : Src} {x : V} {u : Value} (I : Inv X pins σ H s) (r : RelV x u) (h : src.of X.K H x) : ∃ (o : Obj) (Hh : Heap → Prop), Begins u o Hh ∧ Hh s.heap ∧ (∀ (h' : Heap) (it : Addr), h'.get? it = some o → src.itn it 0 h') ∧ ∀ b ∈ src.adr, b < s.heap.objs.size := by
  cases src with
  | l a =>
    obtain ⟨rfl, xs, hq⟩ := h
    obtain rfl : u = Value.ref a := r
    obtain ⟨its, rv, p, hz⟩ := I.list hq
    exact ⟨_, _, begins_list a its.toArray, p.isList, fun h' it e => ⟨_, e, rfl, rfl⟩, fun b hb => by rw [List.mem_singleton.mp hb]; exact p.lt⟩
  | t a =>
    obtain ⟨rfl, xs, hq⟩ := h
    obtain rfl : u = Value.ref a := r
    obtain ⟨its, rv, p, hz⟩ := I.tuple hq
    exact ⟨_, _, begins_tuple a its.toArray, p, fun h' it e => ⟨_, e, rfl, rfl⟩, fun b hb => by rw [List.mem_singleton.mp hb]; exact p.lt⟩
  | s z =>
    obtain rfl : x = .str z := h
    obtain ⟨t, rfl⟩ := r
    exact ⟨_, _, begins_text z t, trivial, fun h' it e => ⟨t, _, e, rfl, rfl⟩, fun b hb => by cases hb⟩
end
/-! ### enumerate -/
def Jen (K : PySem.W.Frag) (src : Src) : It :=
  ⟨fun i H => (∃ x, src.at_ K H i x) ∧ ∃ n, src.size K H n ∧ i < n, fun i H v H' => ∃ T x, v = .ref T ∧ H T = none ∧ H' = upd H T (.tup [.int (i : Nat), x]) ∧ src.all_ K H i x, fun i H => src.size K H i⟩
theorem turn_en {P : Program} {w : World} {K : PySem.W.Frag} {elts : List Expr} {kk : Nat} {tpos : Pos} (src : Src) (e it : Addr) (hei : e ≠ it) (he : e ∉ src.adr) (hi : it ∉ src.adr) :
    Turn P w K (.Tuple elts kk tpos) (Jen K src) [e, it] e (fun i h => (∃ old, IsEnum h e it ((i : Nat) : Int) old) ∧ src.itn it i h) where
  mem := by simp
  obj := fun i h st b hb => by
    obtain ⟨⟨old, he⟩, hi⟩ := st
    have e' : b = e ∨ b = it := by simpa using hb
    rcases e' with z | z
    · rw [z]; exact ⟨_, he, fun v q => nomatch q⟩
    · rw [z]; exact Src.itn_obj hi
  keep := fun i h h' st k => let ⟨⟨old, he⟩, hi⟩ := st; ⟨⟨old, k e (by simp) _ he⟩, Src.itn_keep hi fun o q => k it (by simp) o q⟩
  item := by
    intro X hP hw hK hc i pins s σ H E I hf st hg
    subst hP hw hK
    obtain ⟨⟨old, hen⟩, hit⟩ := st
    obtain ⟨⟨x, hx⟩, n, hs, hin⟩ := hg
    obtain ⟨Pv, St, D, hst, hrel, hback⟩ := Src.draws I hc hi hit hs
    have W := GoesN.enumFrom (elts := elts) (x1 := kk) (pos := tpos) 0 D e hei (fun m => by
      rcases List.mem_cons.mp m with z | z
      · exact hei z
      · exact he z) List.mem_cons_self
    have hen' : IsEnum s.heap e it (0 + (i : Int)) old := by rw [Int.zero_add]; exact hen
    refine wpAny_mono (W.goes i s (fun v s2 => ∃ x H', Inv X pins σ H' s2 ∧ RelV x v ∧ (Jen X.K src).yld i H x H' ∧ ((∃ old, IsEnum s2.heap e it (((i + 1 : Nat)) : Int) old) ∧ src.itn it (i + 1) s2.heap) ∧ ∀ b ∈ [e, it], H' b = none) E hin ⟨⟨old, hen'⟩, hst⟩ fun v h' tk hY st' hk htk => ?_) (fun r s1 h => h) fun _ _ q => q
    obtain ⟨T, t, u, rfl, hnew, hPu, hT⟩ := hY
    obtain ⟨⟨old', hen2⟩, hst2⟩ := st'
    obtain ⟨o, ho, hcl, nn, hd⟩ := hT
    have ru := hrel i u x hPu hx
    have new : ObjOk X.prog X.w (upd H T (.tup [.int (i : Nat), x])) h' T (.tup [.int (i : Nat), x]) :=
      ⟨by show 2 ≤ sizeLine; decide, [.int (0 + (i : Int)) t, u], .cons ⟨t, by rw [Int.zero_add]⟩ (.cons ru .nil), o, ho, hcl, nn, hd⟩
    have hfr : H T = none := I.hok.fresh hnew
    refine ⟨.ref T, _, I.turnedNew (t' := tk) (ch := [e, it]) (fun b ob hb q => hk b ob hb q) hf hnew new, rfl, ⟨T, x, rfl, hfr, rfl, Src.all_of I hx⟩, ⟨⟨old', ?_⟩, hback _ _ hst2⟩, fun b hb => ?_⟩
    · have e1 : (((i + 1 : Nat)) : Int) = 0 + ((i + 1 : Nat) : Int) := by omega
      rw [e1]; exact hen2
    · have hb' : b < s.heap.objs.size := by
        have e' : b = e ∨ b = it := by simpa using hb
        rcases e' with z | z
        · rw [z]; exact Heap.lt_size hen
        · rw [z]; obtain ⟨o2, e2, _⟩ := Src.itn_obj hit; exact Heap.lt_size e2
      rw [upd_ne (Nat.ne_of_lt (Nat.lt_of_lt_of_le hb' hnew))]
      exact (hf b hb).1
  done := by
    intro X hP hw hK hc i pins s σ H E I hf st hg
    subst hP hw hK
    obtain ⟨⟨old, hen⟩, hit⟩ := st
    obtain ⟨Pv, St, D, hst, hrel, hback⟩ := Src.draws I hc hi hit hg
    have W := GoesN.enumFrom (elts := elts) (x1 := kk) (pos := tpos) 0 D e hei (fun m => by
      rcases List.mem_cons.mp m with z | z
      · exact hei z
      · exact he z) List.mem_cons_self
    have hen' : IsEnum s.heap e it (0 + (i : Int)) old := by rw [Int.zero_add]; exact hen
    exact W.stops s (fun s1 => Inv X pins σ H s1) E ⟨⟨old, hen'⟩, hst⟩ fun h' tk hk htk => I.turnedL (t' := tk) (ch := [e, it]) (fun b o hb q => hk b o hb q) hf
  self := fun A i s Q E st h => let ⟨⟨_, he⟩, _⟩ := st; wpAny_pyIter_enum he h
/-- enumerate's begin, over any source -/
theorem meets_en {v : Value} {o : Obj} {Hh : Heap → Prop} (B : Begins v o Hh) :
    Meets (Builtin.«enumerate.__new__» ⟨[.type "enumerate", v], []⟩) (fun _ R s => Hh s.heap ∧
      R (.ok (.ret (.ref (s.heap.push o).objs.size))) { s with heap := (s.heap.push o).push { cls := .type "enumerate", data := .fields #[.none, .bool false, .ref s.heap.objs.size, rawInt 0, .none, .none] } }) :=
  .of_wp fun prog w A R s h => by
    obtain ⟨hp, g, d, tk, os⟩ := s; obtain ⟨h1, h⟩ := h
    have hsub := sub_enumerate
    have q1 : ∀ {A' : Around} {E : Value → Shared → Prop} {Q : Value → Shared → Prop}, Q (.ref hp.objs.size) ⟨hp.push o, g, d, tk, os⟩ → wpAny (model prog w) A' (pyIter v) Q E ⟨hp, g, d, tk, os⟩ :=
      fun q => B.iter prog w _ _ ⟨hp, g, d, tk, os⟩ _ h1 q
    wp_walk using q1
    refine wpAny_stack_any fun st => wpAny_pure ?_
    split
    · rename_i c _ _ _ _ _
      cases (c == Value.type "enumerate")
      · wp_walk using q1
        exact ⟨_, rfl, h⟩
      · wp_walk using q1
        exact ⟨_, rfl, h⟩
    · wp_walk using q1
      exact ⟨_, rfl, h⟩
theorem en_begins {prog : Program} {w : World} {A : Around} {E : Value → Shared → Prop} {s : Shared} {v : Value} {o : Obj} {Hh : Heap → Prop} {Q : Value → Shared → Prop} (B : Begins v o Hh) (h1 : Hh s.heap)
    (h : ∀ h', IsEnum h' (s.heap.objs.size + 1) s.heap.objs.size 0 .none → h'.get? s.heap.objs.size = some o → h'.objs.size = s.heap.objs.size + 2 →
      (∀ b o, s.heap.get? b = some o → h'.get? b = some o) → Q (.ref (s.heap.objs.size + 1)) { s with heap := h' }) :
    wpAny (model prog w) A (call (.type "enumerate") [v]) Q E s := by
  refine callType_new F.called_enumerate (by decide) (F.typeCall_enumerate_1 _) (F.newCall_enumerate_1 _) (fun obj => F.args_object_init_2 obj _) F.entry_enumerate_new
    (meets_en B) ⟨h1, ?_⟩
  have hz : (s.heap.push o).objs.size = s.heap.objs.size + 1 := Heap.size_push ..
  show _ ∧ _
  rw [hz]
  have he : IsEnum ((s.heap.push o).push { cls := .type "enumerate", data := .fields #[.none, .bool false, .ref s.heap.objs.size, rawInt 0, .none, .none] }) (s.heap.objs.size + 1) s.heap.objs.size 0 .none := by
    have := Heap.get?_push_size (s.heap.push o) (o := { cls := .type "enumerate", data := .fields #[.none, .bool false, .ref s.heap.objs.size, rawInt 0, .none, .none] }) rfl
    rw [hz] at this; exact this
  refine ⟨⟨_, he, rfl⟩, h _ he (Heap.get?_push_of_some _ (Heap.get?_push_size _ B.free)) (by rw [Heap.size_push, hz]) fun b o x => Heap.get?_push_of_some _ (Heap.get?_push_of_some _ x)⟩
def iEn (K : PySem.W.Frag) (ta : TA) : TI := fun σ H R => ta σ H fun vs H1 => ∃ x src, vs = [x] ∧ Src.of K H1 x src ∧ R (Jen K src) H1
theorem pi_en {X : Cx} {e : Expr} {ta : TA} {p pos tpos : Pos} {elts : List Expr} {kk : Nat} (hg : Gl X "enumerate") (hm : X.mg "enumerate" = none) (ha : PA X [e] ta) (hs : starEach [e] X.env = [(false, eval e X.env)]) :
    PI X (.Tuple elts kk tpos) (.Call (.Name "enumerate" p) [e] [] pos) (iEn X.K ta) := by
  refine ⟨fun pins s σ H R I h => ?_⟩
  refine Call_ (ld_blt I hg hm boot_enumerate (PyProof.Rows.callWith_type1 (thn (ha.run pos pins s σ H _ I h) fun us s1 ⟨vs, H1, I1, r1, q1⟩ => ?_) hs rfl))
  obtain ⟨x, src, ex, hof, q⟩ := q1
  subst ex
  obtain ⟨u, eu, rx⟩ := vals1 r1
  subst eu
  obtain ⟨o, Hh, B, hh, hit, hlt⟩ := Src.begins I1 rx hof
  refine en_begins B hh fun h' he hg' hsz hk => wpAny_pyIter_enum he ?_
  have I2 : Inv X pins σ H1 { s1 with heap := h' } := I1.kept (t' := s1.toks) hk
  refine ⟨s1.heap.objs.size + 1, [s1.heap.objs.size + 1, s1.heap.objs.size], _, _, H1, rfl, I2, turn_en src (s1.heap.objs.size + 1) s1.heap.objs.size (Nat.succ_ne_self _) (fun m => ?_) (fun m => ?_), ⟨⟨.none, he⟩, hit _ _ hg'⟩, fun b hb => ?_, q⟩
  · exact absurd (hlt _ m) (by show ¬ (s1.heap.objs.size + 1 : Nat) < s1.heap.objs.size; omega)
  · exact absurd (hlt _ m) (Nat.lt_irrefl _)
  · have e' : b = s1.heap.objs.size + 1 ∨ b = s1.heap.objs.size := by simpa using hb
    have hle : s1.heap.objs.size ≤ b := by
      rcases e' with z | z
      · rw [z]; exact Nat.le_add_right _ _
      · rw [z]; exact Nat.le_refl _
    exact I1.fpOk hle (I1.hok.fresh hle)
/-! ### zip -/
def Jz2 (K : PySem.W.Frag) (a b : Src) : It :=
  ⟨fun i H => (∃ x y, a.at_ K H i x ∧ b.at_ K H i y) ∧ ∃ n m, a.size K H n ∧ b.size K H m ∧ i < n ∧ i < m,
    fun i H v H' => ∃ T x y, v = .ref T ∧ H T = none ∧ H' = upd H T (.tup [x, y]) ∧ a.all_ K H i x ∧ b.all_ K H i y,
    fun i H => ∃ n m, a.size K H n ∧ b.size K H m ∧ i = min n m⟩
theorem turn_z2 {P : Program} {w : World} {K : PySem.W.Frag} {elts : List Expr} {kk : Nat} {tpos : Pos} (a b : Src) {z TI TO i1 i2 : Addr} (S : ZipSep2 z TI TO i1 i2 (i1 :: a.adr) (i2 :: b.adr)) (h1 : i1 ∉ a.adr) (h2 : i2 ∉ b.adr) :
    Turn P w K (.Tuple elts kk tpos) (Jz2 K a b) [z, TI, TO, i1, i2] z (fun i h => IsZip h z TI TO .none ∧ IsTupOf2 h TI (.ref i1) (.ref i2) ∧ (∃ a1 a2, IsTupOf2 h TO a1 a2) ∧ a.itn i1 i h ∧ b.itn i2 i h) where
  mem := by simp
  obj := fun i h st c hc => by
    obtain ⟨hz, hTI, ⟨x, y, hTO⟩, q1, q2⟩ := st
    have e' : c = z ∨ c = TI ∨ c = TO ∨ c = i1 ∨ c = i2 := by simpa using hc
    rcases e' with q | q | q | q | q
    · rw [q]; exact ⟨_, hz, fun v q => nomatch q⟩
    · rw [q]; exact ⟨_, hTI, fun v q => nomatch q⟩
    · rw [q]; exact ⟨_, hTO, fun v q => nomatch q⟩
    · rw [q]; exact Src.itn_obj q1
    · rw [q]; exact Src.itn_obj q2
  keep := fun i h h' st k => by
    obtain ⟨hz, hTI, ⟨x, y, hTO⟩, q1, q2⟩ := st
    exact ⟨k z (by simp) _ hz, k TI (by simp) _ hTI, ⟨x, y, k TO (by simp) _ hTO⟩, Src.itn_keep q1 fun o q => k i1 (by simp) o q, Src.itn_keep q2 fun o q => k i2 (by simp) o q⟩
  item := by
    intro X hP hw hK hc i pins s σ H E I hf st hg
    subst hP hw hK
    obtain ⟨hz, hTI, hTO, q1, q2⟩ := st
    obtain ⟨⟨x, y, hx, hy⟩, n, m, hn, hm, l1, l2⟩ := hg
    obtain ⟨P1, St1, D1, s1, r1, b1⟩ := Src.draws I hc h1 q1 hn
    obtain ⟨P2, St2, D2, s2, r2, b2⟩ := Src.draws I hc h2 q2 hm
    have W := GoesN.zip2 (elts := elts) (x1 := kk) (pos := tpos) S D1 D2
    refine wpAny_mono (W.goes i s (fun v s2 => ∃ x H', Inv X pins σ H' s2 ∧ RelV x v ∧ (Jz2 X.K a b).yld i H x H' ∧ (IsZip s2.heap z TI TO .none ∧ IsTupOf2 s2.heap TI (.ref i1) (.ref i2) ∧ (∃ a1 a2, IsTupOf2 s2.heap TO a1 a2) ∧ a.itn i1 (i + 1) s2.heap ∧ b.itn i2 (i + 1) s2.heap) ∧ ∀ c ∈ [z, TI, TO, i1, i2], H' c = none) E (by omega) ⟨hz, hTI, hTO, s1, s2⟩ fun v h' tk hY st' hk htk => ?_) (fun r s1 h => h) fun _ _ q => q
    obtain ⟨T, u1, u2, rfl, hnew, hP1, hP2, hT⟩ := hY
    obtain ⟨hz', hTI', hTO', s1', s2'⟩ := st'
    obtain ⟨o, ho, hcl, nn, hd⟩ := hT
    have new : ObjOk X.prog X.w (upd H T (.tup [x, y])) h' T (.tup [x, y]) :=
      ⟨by show 2 ≤ sizeLine; decide, [u1, u2], .cons (r1 i u1 x hP1 hx) (.cons (r2 i u2 y hP2 hy) .nil), o, ho, hcl, nn, hd⟩
    have hfr : H T = none := I.hok.fresh hnew
    refine ⟨.ref T, _, I.turnedNew (t' := tk) (ch := [z, TI, TO, i1, i2]) (fun c ob hb q => hk c ob (fun m => hb (by
      have e' : c = z ∨ c = TO ∨ c = i1 ∨ c = i2 := by simpa using m
      rcases e' with q | q | q | q <;> simp [q])) q) hf hnew new, rfl, ⟨T, x, y, rfl, hfr, rfl, Src.all_of I hx, Src.all_of I hy⟩, ⟨hz', hTI', hTO', b1 _ _ s1', b2 _ _ s2'⟩, fun c hcm => ?_⟩
    have hlt : c < s.heap.objs.size := by
      have e' : c = z ∨ c = TI ∨ c = TO ∨ c = i1 ∨ c = i2 := by simpa using hcm
      rcases e' with q | q | q | q | q
      · rw [q]; exact Heap.lt_size hz
      · rw [q]; exact Heap.lt_size hTI
      · rw [q]; obtain ⟨_, _, t⟩ := hTO; exact Heap.lt_size t
      · rw [q]; obtain ⟨_, t, _⟩ := Src.itn_obj q1; exact Heap.lt_size t
      · rw [q]; obtain ⟨_, t, _⟩ := Src.itn_obj q2; exact Heap.lt_size t
    rw [upd_ne (Nat.ne_of_lt (Nat.lt_of_lt_of_le hlt hnew))]
    exact (hf c hcm).1
  done := by
    intro X hP hw hK hc i pins s σ H E I hf st hg
    subst hP hw hK
    obtain ⟨hz, hTI, hTO, q1, q2⟩ := st
    obtain ⟨n, m, hn, hm, rfl⟩ := hg
    obtain ⟨P1, St1, D1, s1, r1, b1⟩ := Src.draws I hc h1 q1 hn
    obtain ⟨P2, St2, D2, s2, r2, b2⟩ := Src.draws I hc h2 q2 hm
    have W := GoesN.zip2 (elts := elts) (x1 := kk) (pos := tpos) S D1 D2
    exact W.stops s (fun s1 => Inv X pins σ H s1) E ⟨hz, hTI, hTO, s1, s2⟩ fun h' tk hk htk => I.turnedL (t' := tk) (ch := [z, TI, TO, i1, i2]) (fun c o hb q => hk c o (fun m => hb (by
      have e' : c = z ∨ c = TO ∨ c = i1 ∨ c = i2 := by simpa using m
      rcases e' with q | q | q | q <;> simp [q])) q) hf
  self := fun A i s Q E st h => wpAny_pyIter_zip st.1 h
def iZ2 (K : PySem.W.Frag) (ta : TA) : TI := fun σ H R => ta σ H fun vs H1 => ∃ x y a b, vs = [x, y] ∧ Src.of K H1 x a ∧ Src.of K H1 y b ∧ R (Jz2 K a b) H1
theorem pi_z2 {X : Cx} {e e2 : Expr} {ta : TA} {p pos tpos : Pos} {elts : List Expr} {kk : Nat} (hg : Gl X "zip") (hm : X.mg "zip" = none) (ha : PA X [e, e2] ta)
    (hs : starEach [e, e2] X.env = (false, eval e X.env) :: starEach [e2] X.env) (hpl : (backTo pos (starEach [e2] X.env)).any (·.1) = false) :
    PI X (.Tuple elts kk tpos) (.Call (.Name "zip" p) [e, e2] [] pos) (iZ2 X.K ta) := by
  refine ⟨fun pins s σ H R I h => ?_⟩
  refine Call_ (ld_blt I hg hm PyProof.Rows.boot_zip (PyProof.Rows.callWith_type1 (thn (ha.run pos pins s σ H _ I h) fun us s1 ⟨vs, H1, I1, r1, q1⟩ => ?_) hs hpl))
  obtain ⟨x, y, a, b, ex, hof1, hof2, q⟩ := q1
  subst ex
  obtain ⟨u1, u2, rfl, rx, ry⟩ := vals2 r1
  obtain ⟨o1, Hh1, B1, hh1, hit1, hlt1⟩ := Src.begins I1 rx hof1
  obtain ⟨o2, Hh2, B2, hh2, hit2, hlt2⟩ := Src.begins I1 ry hof2
  refine zip_begins2 B1 B2 hh1 hh2 fun h' hz hTI hTO hg1 hg2 hsz hk => wpAny_pyIter_zip hz ?_
  have I2 : Inv X pins σ H1 { s1 with heap := h' } := I1.kept (t' := s1.toks) hk
  have S := zip_sep2 (N := s1.heap.objs.size) (fp1 := a.adr) (fp2 := b.adr) hlt1 hlt2
  refine ⟨s1.heap.objs.size + 4, [s1.heap.objs.size + 4, s1.heap.objs.size + 2, s1.heap.objs.size + 3, s1.heap.objs.size, s1.heap.objs.size + 1], _, _, H1, rfl, I2, turn_z2 a b S (fun m => absurd (hlt1 _ m) (Nat.lt_irrefl _)) (fun m => absurd (hlt2 _ m) (by show ¬ (s1.heap.objs.size + 1 : Nat) < s1.heap.objs.size; omega)),
    ⟨hz, hTI, ⟨_, _, hTO⟩, hit1 _ _ hg1, hit2 _ _ hg2⟩, fun c hcm => ?_, q⟩
  have e' : c = s1.heap.objs.size + 4 ∨ c = s1.heap.objs.size + 2 ∨ c = s1.heap.objs.size + 3 ∨ c = s1.heap.objs.size ∨ c = s1.heap.objs.size + 1 := by simpa using hcm
  have hle : s1.heap.objs.size ≤ c := by
    rcases e' with z | z | z | z | z
    · rw [z]; exact Nat.le_add_right _ _
    · rw [z]; exact Nat.le_add_right _ _
    · rw [z]; exact Nat.le_add_right _ _
    · rw [z]; exact Nat.le_refl _
    · rw [z]; exact Nat.le_add_right _ _
  exact I1.fpOk hle (I1.hok.fresh hle)
end Vf
end L2
end
section
/-! VH: what loops walk; comprehensions. -/
namespace L2
namespace Vf
open PySem PySem.Spec PyProof.Rows
/-- whatever stands there: a list, a tuple, a text -/
def iAny (K : PySem.W.Frag) (te : TE) : TI := fun σ H R => te σ H fun x H1 => (∃ a, x = .ref a ∧ (((∃ xs, SqL K H1 a xs) ∧ R (Itl K a) H1) ∨ ((∃ xs, SqT K H1 a xs) ∧ R (Itt K a) H1))) ∨ ∃ z, x = .str z ∧ R (Its z) H1
theorem pi_any {X : Cx} {tg e : Expr} {te : TE} (he : PE X e te) : PI X tg e (iAny X.K te) := by
  refine ⟨fun pins s σ H R I h => thn (he.run pins s σ H _ I h) fun v s1 ⟨y, H1, I1, r1, q⟩ => ?_⟩
  rcases q with ⟨a, rfl, ⟨⟨xs, hq⟩, q⟩ | ⟨⟨xs, hq⟩, q⟩⟩ | ⟨z, rfl, q⟩
  · cases r1
    obtain ⟨its, rv, p, hz⟩ := I1.list hq
    exact wpAny_pyIter_list p.isList (pi_one (tk := s1.toks) I1 _ (turn_list a _) ⟨_, Heap.get?_push_size _ rfl, rfl, rfl⟩ q)
  · cases r1
    obtain ⟨its, rv, p, hz⟩ := I1.tuple hq
    exact wpAny_pyIter_tuple (show s1.heap.IsTuple a its.toArray from p) (pi_one (tk := s1.toks) I1 _ (turn_tuple a _) ⟨_, Heap.get?_push_size _ rfl, rfl, rfl⟩ q)
  · obtain ⟨t, rfl⟩ := r1
    cases ha : z.cps.all (· < 128)
    · exact wpAny_pyIter_wide ha (pi_one (tk := s1.toks) I1 _ (turn_str _ z t "str_iterator" (.inr rfl)) ⟨_, Heap.get?_push_size _ rfl, rfl, rfl⟩ q)
    · exact wpAny_pyIter_ascii ha (pi_one (tk := s1.toks) I1 _ (turn_str _ z t "str_ascii_iterator" (.inl rfl)) ⟨_, Heap.get?_push_size _ rfl, rfl, rfl⟩ q)
def nxtL (n : Nat) : Nxt := fun i mh => match mh[n]? with
  | some (.lst xs) => some xs[i]?
  | _ => none
def nxtX (xs : List MV) : Nxt := fun i _ => some xs[i]?
def nxtS (cs : List Nat) : Nxt := fun i _ => match cs[i]? with
  | some c => some (some (.str [c]))
  | none => some none
def nxtR (lo : Int) (n : Nat) : Nxt := fun i _ => if Nat.blt i n then some (some (.int (lo + i))) else some none
def anyI (d : DE) : DI := bnd d fun v _ _ mh => match v with
  | .loc n => match mh[n]? with
    | some (.lst _) => .ok (nxtL n) mh
    | _ => .stuck
  | .tup xs => .ok (nxtX xs) mh
  | .fl xs => .ok (nxtX xs) mh
  | .str cs => .ok (nxtS cs) mh
  | _ => .stuck
def inR (j : Int) : Bool := Nat.blt j.natAbs 4611686018427387904
def rng1I (dl : DL) : DI := bnd dl fun as _ _ mh => match as with
  | [.int j] => if inR j then .ok (nxtR 0 j.toNat) mh else .stuck
  | _ => .stuck
def rng2I (dl : DL) : DI := bnd dl fun as _ _ mh => match as with
  | [.int i, .int j] => if inR i && inR j then .ok (nxtR i (j - i).toNat) mh else .stuck
  | _ => .stuck
/-- what is drawn from -/
def srcL : MV → MH → Option (List MV)
  | .loc n, mh => match mh[n]? with
    | some (.lst xs) => some xs
    | _ => none
  | .tup xs, _ => some xs
  | .fl xs, _ => some xs
  | .str cs, _ => some (cs.map fun c => .str [c])
  | _, _ => none
def nxtE (v : MV) : Nxt := fun i mh => match srcL v mh with
  | some xs => match xs[i]? with
    | some x => some (some (.pr [.int i, x]))
    | none => if Nat.beq xs.length i then some none else none
  | none => none
def enumI (dl : DL) : DI := bnd dl fun as _ _ mh => match as with
  | [v] => match srcL v mh with
    | some _ => .ok (nxtE v) mh
    | none => .stuck
  | _ => .stuck
def nxtZ (v w : MV) : Nxt := fun i mh => match srcL v mh, srcL w mh with
  | some xs, some ys => match xs[i]?, ys[i]? with
    | some x, some y => some (some (.pr [x, y]))
    | _, _ => if Nat.beq (min xs.length ys.length) i then some none else none
  | _, _ => none
def zipI (dl : DL) : DI := bnd dl fun as _ _ mh => match as with
  | [v, w] => match srcL v mh, srcL w mh with
    | some _, some _ => .ok (nxtZ v w) mh
    | _, _ => .stuck
  | _ => .stuck
section
variable {T : Tx} {X : Cx} {W : WX} {rt : Rt} {ρ1 : List Addr} {H1 : Hp} {tg e : Expr} {pos : Pos}
theorem inR_ok {j : Int} (h : inR j = true) : -(2 ^ 62) ≤ j ∧ j < 2 ^ 62 := by
  have h : j.natAbs + 1 ≤ 4611686018427387904 := Nat.le_of_ble_eq_true h
  omega
theorem sq_uniq {K : PySem.W.Frag} {a : Addr} {xs : List V} (h : H1 a = some (.lst xs)) {ys : List V} (q : ∀ xs, SqL K H1 a xs → ys = xs) : ys = xs := q xs (SqL.of h)
/-- own lists: the list at n stays one -/
theorem it_loc {n : Nat} {a : Addr} (hK : X.K = T.K) (g : ρ1[n]? = some a) : ItOk T ρ1 H1 (nxtL n) (Itl X.K a) := by
  intro i ρ H mh x rh
  unfold nxtL
  cases e : mh[n]? with
  | none => exact ⟨fun h => (by cases h), fun v h => (by cases h)⟩
  | some o =>
    cases o with
    | dct l => exact ⟨fun h => (by cases h), fun v h => (by cases h)⟩
    | lst xs =>
      obtain ⟨vs, e2, r⟩ := rh.ob n a _ (x.get g) e
      refine ⟨fun h => ?_, fun v h => ?_⟩
      · have h : xs[i]? = none := Option.some.inj h
        exact ⟨vs, SqL.of e2, by rw [r.len]; exact List.getElem?_eq_none_iff.mp h⟩
      · have h : xs[i]? = some v := Option.some.inj h
        obtain ⟨u, eu, ru⟩ := r.get h
        refine ⟨⟨vs, u, SqL.of e2, eu⟩, fun y H' ⟨hy, z⟩ => ?_⟩
        subst hy
        have ey : vs[i]? = some y := z vs (SqL.of e2)
        rw [eu] at ey
        cases ey
        exact ⟨.refl, rh, ru⟩
theorem it_tup {xs : List MV} {a : Addr} {vs : List V} (hK : X.K = T.K) (t : Tp T ρ1 H1 a vs) (r : RVs T ρ1 H1 xs vs) : ItOk T ρ1 H1 (nxtX xs) (Itt X.K a) := by
  intro i ρ H mh x rh
  have t := (t.im x.im).sq
  have r := r.mono x
  refine ⟨fun h => ?_, fun v h => ?_⟩
  · have h : xs[i]? = none := Option.some.inj h
    exact ⟨vs, by rw [hK]; exact t, by rw [r.len]; exact List.getElem?_eq_none_iff.mp h⟩
  · have h : xs[i]? = some v := Option.some.inj h
    obtain ⟨u, eu, ru⟩ := r.get h
    refine ⟨⟨vs, u, by rw [hK]; exact t, eu⟩, fun y H' ⟨hy, z⟩ => ?_⟩
    subst hy
    have ey : vs[i]? = some y := z vs (by rw [hK]; exact t)
    rw [eu] at ey
    cases ey
    exact ⟨.refl, rh, ru⟩
theorem it_fl {xs : List MV} {a : Addr} {vs : List V} (hK : X.K = T.K) (t : Fl T ρ1 H1 a vs) (r : RVs T ρ1 H1 xs vs) : ItOk T ρ1 H1 (nxtX xs) (Itl X.K a) := by
  intro i ρ H mh x rh
  have t := (t.im x.im).sq
  have r := r.mono x
  refine ⟨fun h => ?_, fun v h => ?_⟩
  · have h : xs[i]? = none := Option.some.inj h
    exact ⟨vs, by rw [hK]; exact t, by rw [r.len]; exact List.getElem?_eq_none_iff.mp h⟩
  · have h : xs[i]? = some v := Option.some.inj h
    obtain ⟨u, eu, ru⟩ := r.get h
    refine ⟨⟨vs, u, by rw [hK]; exact t, eu⟩, fun y H' ⟨hy, z⟩ => ?_⟩
    subst hy
    have ey : vs[i]? = some y := z vs (by rw [hK]; exact t)
    rw [eu] at ey
    cases ey
    exact ⟨.refl, rh, ru⟩
theorem it_str {cs : List Nat} : ItOk T ρ1 H1 (nxtS cs) (Its (S cs)) := by
  intro i ρ H mh x rh
  unfold nxtS
  have e0 : (S cs).cps[i]? = cs[i]? := by simp [S]
  have e1 : (S cs).cps.size = cs.length := by simp [S]
  cases e : cs[i]? with
  | none => exact ⟨fun _ => (by
      have := List.getElem?_eq_none_iff.mp e
      show (S cs).cps.size ≤ i
      rw [e1]; exact this), fun v h => (by cases h)⟩
  | some c =>
    refine ⟨fun h => (by cases h), fun v h => ?_⟩
    cases h
    refine ⟨(by show i < (S cs).cps.size; rw [e1]; exact (List.getElem?_eq_some_iff.mp e).1), fun y H' ⟨hy, c', ec, ey⟩ => ?_⟩
    subst hy
    rw [e0, e] at ec
    cases ec
    subst ey
    refine ⟨.refl, rh, ?_⟩
    unfold RV; rfl
theorem it_rng {lo : Int} {n : Nat} : ItOk T ρ1 H1 (nxtR lo n) (Itr lo n) := by
  intro i ρ H mh x rh
  unfold nxtR
  split
  · rename_i h
    have h : i + 1 ≤ n := Nat.le_of_ble_eq_true h
    refine ⟨fun h => (by cases h), fun v e => ?_⟩
    cases e
    refine ⟨h, fun y H' ⟨hy, ey⟩ => ?_⟩
    subst hy ey
    exact ⟨.refl, rh, .int⟩
  · rename_i h
    refine ⟨fun _ => ?_, fun v e => (by cases e)⟩
    have : ¬ i + 1 ≤ n := fun z => h (Nat.ble_eq_true_of_le z)
    show n ≤ i
    omega
/-- a value as a source, whatever comes -/
structure SrcIs (T : Tx) (K : PySem.W.Frag) (ρ1 : List Addr) (H1 : Hp) (v : MV) (src : Src) : Prop where
  ok : ∀ ρ H mh, Ext ρ1 H1 ρ H → RH T ρ mh H → ∀ xs, srcL v mh = some xs → src.size K H xs.length ∧ ∀ i m, xs[i]? = some m → (∃ y, src.at_ K H i y) ∧ ∀ y, src.all_ K H i y → RV T ρ H m y
theorem srcL_loc {n : Nat} {mh : MH} {xs : List MV} (h : srcL (.loc n) mh = some xs) : mh[n]? = some (.lst xs) := by
  have h : (match mh[n]? with
    | some (.lst xs) => some xs
    | _ => none) = some xs := h
  split at h
  · rename_i e; cases h; exact e
  · cases h
theorem src_is {ρ1 : List Addr} {H1 : Hp} {mh1 : MH} {v : MV} {x : V} {xs1 : List MV} (hK : X.K = T.K) (rh1 : RH T ρ1 mh1 H1) (r : RV T ρ1 H1 v x) (h : srcL v mh1 = some xs1) : ∃ src, Src.of X.K H1 x src ∧ SrcIs T X.K ρ1 H1 v src := by
  cases v with
  | loc n =>
    have r0 := r
    unfold RV at r
    obtain ⟨a, rfl, g⟩ := r
    refine ⟨.l a, ⟨rfl, ?_⟩, ⟨fun ρ H mh e rh xs hx => ?_⟩⟩
    · obtain ⟨p, vs, ep, g2, h1, r2⟩ := loc_lst rh1 r0 (srcL_loc h)
      cases ep
      exact ⟨vs, SqL.of h1⟩
    · obtain ⟨vs, eo, r2⟩ := rh.ob n a _ (e.get g) (srcL_loc hx)
      refine ⟨⟨vs, SqL.of eo, r2.len⟩, fun i m hm => ?_⟩
      obtain ⟨u, eu, ru⟩ := r2.get hm
      refine ⟨⟨u, vs, SqL.of eo, eu⟩, fun y hy => ?_⟩
      have ey2 : vs[i]? = some y := hy vs (SqL.of eo)
      rw [eu] at ey2; cases ey2
      exact ru
  | tup ys =>
    unfold RV at r
    obtain ⟨a, vs, rfl, t, r2⟩ := r
    refine ⟨.t a, ⟨rfl, vs, by rw [hK]; exact t.sq⟩, ⟨fun ρ H mh e rh xs hx => ?_⟩⟩
    cases hx
    have t2 := (t.im e.im).sq
    have r3 := r2.mono e
    refine ⟨⟨vs, by rw [hK]; exact t2, r3.len⟩, fun i m hm => ?_⟩
    obtain ⟨u, eu, ru⟩ := r3.get hm
    refine ⟨⟨u, vs, by rw [hK]; exact t2, eu⟩, fun y hy => ?_⟩
    have ey2 : vs[i]? = some y := hy vs (by rw [hK]; exact t2)
    rw [eu] at ey2; cases ey2
    exact ru
  | fl ys =>
    unfold RV at r
    obtain ⟨a, vs, rfl, t, r2⟩ := r
    refine ⟨.l a, ⟨rfl, vs, by rw [hK]; exact t.sq⟩, ⟨fun ρ H mh e rh xs hx => ?_⟩⟩
    cases hx
    have t2 := (t.im e.im).sq
    have r3 := r2.mono e
    refine ⟨⟨vs, by rw [hK]; exact t2, r3.len⟩, fun i m hm => ?_⟩
    obtain ⟨u, eu, ru⟩ := r3.get hm
    refine ⟨⟨u, vs, by rw [hK]; exact t2, eu⟩, fun y hy => ?_⟩
    have ey2 : vs[i]? = some y := hy vs (by rw [hK]; exact t2)
    rw [eu] at ey2; cases ey2
    exact ru
  | str cs =>
    unfold RV at r
    subst r
    refine ⟨.s (S cs), rfl, ⟨fun ρ H mh e rh xs hx => ?_⟩⟩
    cases hx
    have e0 : ∀ i : Nat, (S cs).cps[i]? = cs[i]? := fun i => by simp [S]
    refine ⟨by show (S cs).cps.size = _; simp [S], fun i m hm => ?_⟩
    rw [List.getElem?_map] at hm
    cases ec : cs[i]? with
    | none => rw [ec] at hm; cases hm
    | some c =>
      rw [ec] at hm
      cases hm
      refine ⟨⟨_, c, by rw [e0]; exact ec, rfl⟩, fun y ⟨c', h1, h2⟩ => ?_⟩
      rw [e0, ec] at h1
      cases h1
      subst h2
      unfold RV; rfl
  | _ => cases h
theorem it_enum {v : MV} {src : Src} (o : SrcIs T X.K ρ1 H1 v src) : ItOk T ρ1 H1 (nxtE v) (Jen X.K src) := by
  intro i ρ H mh x rh
  unfold nxtE
  cases es : srcL v mh with
  | none => exact ⟨fun h => (by cases h), fun v h => (by cases h)⟩
  | some xs =>
    obtain ⟨sz, k⟩ := o.ok ρ H mh x rh xs es
    dsimp only
    cases e : xs[i]? with
    | none =>
      dsimp only
      refine ⟨fun h => ?_, fun v h => ?_⟩
      · split at h
        · rename_i hb
          show src.size X.K H i
          rw [← Nat.eq_of_beq_eq_true hb]; exact sz
        · cases h
      · split at h <;> cases h
    | some m =>
      refine ⟨fun h => (by cases h), fun v h => ?_⟩
      cases h
      obtain ⟨g1, g2⟩ := k i m e
      refine ⟨⟨g1, _, sz, (List.getElem?_eq_some_iff.mp e).1⟩, fun y H' ⟨p, z, ey, hp, hH, hz⟩ => ?_⟩
      subst ey hH
      have ru := g2 z hz
      obtain ⟨x2, rh2⟩ := rh.new (o := .tup [.int (i : Nat), z]) hp
      refine ⟨x2, rh2, ?_⟩
      unfold RV
      exact ⟨p, _, rfl, ⟨upd_same, rh.out hp⟩, (RVs.cons .int (RVs.cons ru .nil)).mono x2⟩
theorem it_zip {v w : MV} {a b : Src} (o1 : SrcIs T X.K ρ1 H1 v a) (o2 : SrcIs T X.K ρ1 H1 w b) : ItOk T ρ1 H1 (nxtZ v w) (Jz2 X.K a b) := by
  intro i ρ H mh x rh
  unfold nxtZ
  cases es : srcL v mh with
  | none => exact ⟨fun h => (by cases h), fun v h => (by cases h)⟩
  | some xs =>
    cases et : srcL w mh with
    | none => exact ⟨fun h => (by cases h), fun v h => (by cases h)⟩
    | some ys =>
      obtain ⟨sz1, k1⟩ := o1.ok ρ H mh x rh xs es
      obtain ⟨sz2, k2⟩ := o2.ok ρ H mh x rh ys et
      dsimp only
      split
      · rename_i m1 m2 e1 e2
        refine ⟨fun h => (by cases h), fun v h => ?_⟩
        cases h
        obtain ⟨⟨g1, p1⟩, g2⟩ := k1 i m1 e1
        obtain ⟨⟨g3, p3⟩, g4⟩ := k2 i m2 e2
        refine ⟨⟨⟨g1, g3, p1, p3⟩, _, _, sz1, sz2, (List.getElem?_eq_some_iff.mp e1).1, (List.getElem?_eq_some_iff.mp e2).1⟩, fun y H' ⟨p, z, u, ey, hp, hH, hz, hu⟩ => ?_⟩
        subst ey hH
        obtain ⟨x2, rh2⟩ := rh.new (o := .tup [z, u]) hp
        refine ⟨x2, rh2, ?_⟩
        unfold RV
        exact ⟨p, _, rfl, ⟨upd_same, rh.out hp⟩, (RVs.cons (g2 z hz) (RVs.cons (g4 u hu) .nil)).mono x2⟩
      · refine ⟨fun h => ?_, fun v h => ?_⟩
        · split at h
          · rename_i hb
            exact ⟨_, _, sz1, sz2, (Nat.eq_of_beq_eq_true hb).symm⟩
          · cases h
        · split at h <;> cases h
theorem si_any {d : DE} (hK : X.K = T.K) (he : PE X e (TEof T W rt d)) : PI X tg e (TIof T W rt (anyI d)) :=
  ⟨fun pins s σ H R I ⟨ρ, env, mh, rh, rs, w⟩ => (pi_any he).run pins s σ H R I ((Want.bind rh rs w).mono fun x H1 ⟨ρ1, mh1, a, e1, rh1, rs1, ra, w1⟩ => by
    split at w1
    · split at w1
      · rename_i en
        obtain ⟨p, vs, rfl, g, h1, r1⟩ := loc_lst rh1 ra en
        exact .inl ⟨p, rfl, .inl ⟨⟨vs, SqL.of h1⟩, w1 _ ρ1 H1 .refl rh1 (it_loc hK g)⟩⟩
      · exact w1.elim
    · unfold RV at ra
      obtain ⟨p, vs, rfl, t, r⟩ := ra
      exact .inl ⟨p, rfl, .inr ⟨⟨vs, by rw [hK]; exact t.sq⟩, w1 _ ρ1 H1 .refl rh1 (it_tup hK t r)⟩⟩
    · unfold RV at ra
      obtain ⟨p, vs, rfl, t, r⟩ := ra
      exact .inl ⟨p, rfl, .inl ⟨⟨vs, by rw [hK]; exact t.sq⟩, w1 _ ρ1 H1 .refl rh1 (it_fl hK t r)⟩⟩
    · unfold RV at ra
      subst ra
      exact .inr ⟨_, rfl, w1 _ ρ1 H1 .refl rh1 it_str⟩
    · exact w1.elim)⟩
theorem si_rng1 {a : Expr} {dl : DL} {p : Pos} (hg : Gl X "range") (hm : X.mg "range" = none) (ha : PA X [a] (TAof T W rt dl)) (hs : starEach [a] X.env = [(false, eval a X.env)]) : PI X tg (.Call (.Name "range" p) [a] [] pos) (TIof T W rt (rng1I dl)) :=
  ⟨fun pins s σ H R I ⟨ρ, env, mh, rh, rs, w⟩ => (pi_range1 hg hm ha hs).run pins s σ H R I ((Want.bind rh rs w).mono fun xs H1 ⟨ρ1, mh1, as, e1, rh1, rs1, ra, w1⟩ => by
    split at w1
    · split at w1
      · rename_i hj
        obtain ⟨v, rfl, r1⟩ := ra.one
        unfold RV at r1; subst r1
        obtain ⟨h1, h2⟩ := inR_ok hj
        exact ⟨_, rfl, h1, h2, w1 _ ρ1 H1 .refl rh1 it_rng⟩
      · exact w1.elim
    · exact w1.elim)⟩
theorem si_rng2 {a b : Expr} {dl : DL} {p : Pos} (hg : Gl X "range") (hm : X.mg "range" = none) (ha : PA X [a, b] (TAof T W rt dl)) (hs : starEach [a, b] X.env = [(false, eval a X.env), (false, eval b X.env)]) (hs2 : starEach [b] X.env = [(false, eval b X.env)]) :
    PI X tg (.Call (.Name "range" p) [a, b] [] pos) (TIof T W rt (rng2I dl)) :=
  ⟨fun pins s σ H R I ⟨ρ, env, mh, rh, rs, w⟩ => (pi_range2 hg hm ha hs hs2).run pins s σ H R I ((Want.bind rh rs w).mono fun xs H1 ⟨ρ1, mh1, as, e1, rh1, rs1, ra, w1⟩ => by
    split at w1
    · split at w1
      · rename_i hj
        have hj := Bool.and_eq_true_iff.mp hj
        obtain ⟨v, u, rfl, r1, r2⟩ := ra.two
        unfold RV at r1 r2; subst r1 r2
        obtain ⟨h1, h2⟩ := inR_ok hj.1
        obtain ⟨h3, h4⟩ := inR_ok hj.2
        exact ⟨_, _, rfl, ⟨h1, h2, h3, h4⟩, w1 _ ρ1 H1 .refl rh1 it_rng⟩
      · exact w1.elim
    · exact w1.elim)⟩
theorem si_enum {elts : List Expr} {kk : Nat} {tpos : Pos} {dl : DL} {p : Pos} (hK : X.K = T.K) (hg : Gl X "enumerate") (hm : X.mg "enumerate" = none) (ha : PA X [e] (TAof T W rt dl)) (hs : starEach [e] X.env = [(false, eval e X.env)]) :
    PI X (.Tuple elts kk tpos) (.Call (.Name "enumerate" p) [e] [] pos) (TIof T W rt (enumI dl)) :=
  ⟨fun pins s σ H R I ⟨ρ, env, mh, rh, rs, w⟩ => (pi_en hg hm ha hs).run pins s σ H R I ((Want.bind rh rs w).mono fun xs H1 ⟨ρ1, mh1, as, e1, rh1, rs1, ra, w1⟩ => by
    split at w1
    · split at w1
      · rename_i es
        obtain ⟨v, rfl, r1⟩ := ra.one
        obtain ⟨src, h1, h2⟩ := src_is hK rh1 r1 es
        exact ⟨v, src, rfl, h1, w1 _ ρ1 H1 .refl rh1 (it_enum h2)⟩
      · exact w1.elim
    · exact w1.elim)⟩
theorem si_zip {e2 : Expr} {elts : List Expr} {kk : Nat} {tpos : Pos} {dl : DL} {p : Pos} (hK : X.K = T.K) (hg : Gl X "zip") (hm : X.mg "zip" = none) (ha : PA X [e, e2] (TAof T W rt dl)) (hs : starEach [e, e2] X.env = (false, eval e X.env) :: starEach [e2] X.env)
    (hpl : (backTo pos (starEach [e2] X.env)).any (·.1) = false) : PI X (.Tuple elts kk tpos) (.Call (.Name "zip" p) [e, e2] [] pos) (TIof T W rt (zipI dl)) :=
  ⟨fun pins s σ H R I ⟨ρ, env, mh, rh, rs, w⟩ => (pi_z2 hg hm ha hs hpl).run pins s σ H R I ((Want.bind rh rs w).mono fun xs H1 ⟨ρ1, mh1, as, e1, rh1, rs1, ra, w1⟩ => by
    split at w1
    · split at w1
      · rename_i es et
        obtain ⟨v, u, rfl, r1, r2⟩ := ra.two
        obtain ⟨a, h1, h2⟩ := src_is hK rh1 r1 es
        obtain ⟨b, h3, h4⟩ := src_is hK rh1 r2 et
        exact ⟨v, u, a, b, rfl, h1, h3, w1 _ ρ1 H1 .refl rh1 (it_zip h2 h4)⟩
      · exact w1.elim
    · exact w1.elim)⟩
/-! ### comprehensions -/
def wipeE (env : Env') : List Nat → Env'
  | [] => env
  | v :: vs => (wipeE env vs).set v none
theorem RSt.wipe_ {ρ : List Addr} {H : Hp} {env : Env'} {σ : St} (h : RSt T ρ H env σ) : ∀ vs : List Nat, RSt T ρ H (wipeE env vs) (L2.wipe σ vs)
  | [] => h
  | v :: vs => by
    have ih := RSt.wipe_ h vs
    unfold wipeE L2.wipe
    refine ⟨by simp [ih.len], fun j m q => ?_⟩
    by_cases hj : v = j
    · subst hj
      have hl : v < (wipeE env vs).length := by
        have := (List.getElem?_eq_some_iff.mp q).1
        rwa [List.length_set] at this
      rw [List.getElem?_set_self hl] at q
      cases q
    · rw [List.getElem?_set_ne hj] at q ⊢
      exact ih.at_ j m q
def lcL (nxt : Nxt) (g : DG) (tt : DB) (te : DE) (rt : Rt) (env : Env') : Nat → Nat → List MV → MH → Option (List MV × MH)
  | 0, _, _, _ => none
  | n + 1, i, acc, mh => match nxt i mh with
    | none => none
    | some none => some (acc.reverse, mh)
    | some (some v) => match g rt v env mh with
      | .nx e h => match tt rt e h with
        | .ok true h => match te rt e h with
          | .ok y h => if Nat.blt i lim then lcL nxt g tt te rt env n (i + 1) (y :: acc) h else none
          | _ => none
        | .ok false h => lcL nxt g tt te rt env n (i + 1) acc h
        | _ => none
      | _ => none
def lcD (di : DI) (own : List Nat) (g : DG) (tt : DB) (te : DE) : DE := bnd di fun nxt rt env mh => match lcL nxt g tt te rt (wipeE env own) rt.fuel 0 [] mh with
  | some (acc, h) => .ok (.loc h.length) (h ++ [.lst acc])
  | none => .stuck
def yesD : DB := fun _ _ mh => .ok true mh
theorem sts_nil : PTs X [] (TTof T W rt yesD) := ⟨fun pins s σ H Q I ⟨ρ, env, mh, rh, rs, w⟩ => pts_nil.run pins s σ H Q I (w true ρ H .refl rh rfl)⟩
theorem sts_one {c : Expr} {t : DB} (h : PT X c (TTof T W rt t)) : PTs X [c] (TTof T W rt t) := pts_one h
abbrev NoX : WX := fun _ _ _ _ => False
abbrev OwnP (own : List Nat) : St → St → Prop := fun σ σ' => L2.wipe σ' own = L2.wipe σ own
theorem wipe_get (σ : St) (i : Nat) : ∀ l : List Nat, (L2.wipe σ l)[i]? = if i ∈ l ∧ i < σ.length then some none else σ[i]?
  | [] => by simp [L2.wipe]
  | v :: l => by
    unfold L2.wipe
    by_cases h : v = i
    · subst h
      by_cases hl : v < σ.length
      · rw [List.getElem?_set_self (by rw [L2.wipe_length]; exact hl), if_pos ⟨List.mem_cons_self, hl⟩]
      · rw [List.getElem?_eq_none (by rw [List.length_set, L2.wipe_length]; omega), if_neg (fun z => hl z.2), List.getElem?_eq_none (by omega)]
    · rw [List.getElem?_set_ne h, wipe_get σ i l]
      simp only [List.mem_cons, Ne.symm h, false_or]
theorem wipe_wipe (σ : St) (l : List Nat) : L2.wipe (L2.wipe σ l) l = L2.wipe σ l := by
  apply List.ext_getElem?
  intro i
  rw [wipe_get, wipe_get, L2.wipe_length]
  split
  · rfl
  · rfl
theorem wipe_set (σ : St) (v : Option V) {i : Nat} {l : List Nat} (h : i ∈ l) : L2.wipe (σ.set i v) l = L2.wipe σ l := by
  apply List.ext_getElem?
  intro j
  rw [wipe_get, wipe_get, List.length_set]
  split
  · rfl
  · rename_i hn
    by_cases hj : i = j
    · subst hj
      have : ¬ i < σ.length := fun z => hn ⟨h, z⟩
      rw [List.getElem?_eq_none (by rw [List.length_set]; omega), List.getElem?_eq_none (by omega)]
    · rw [List.getElem?_set_ne hj]
theorem RH.adopt {ρ : List Addr} {mh : MH} {H : Hp} {D : Addr} {vs : List V} {o : MO} (rh : RH T ρ mh H) (hd : H D = some (.lst vs)) (nd : D ∉ ρ) (r : RO T ρ H o (some (.lst vs))) :
    Ims ρ H (ρ ++ [D]) H ∧ RH T (ρ ++ [D]) (mh ++ [o]) H ∧ (ρ ++ [D])[mh.length]? = some D := by
  have im : Ims ρ H (ρ ++ [D]) H := ⟨fun n a m => by rw [List.getElem?_append_left (List.getElem?_eq_some_iff.mp m).1]; exact m, fun a us h n => ⟨h, fun m => by
    rcases List.mem_append.mp m with m | m
    · exact n m
    · have e : a = D := by simpa using m
      subst e
      rw [hd] at h; cases h⟩, fun a ob u h n => ⟨h, fun m => by
    rcases List.mem_append.mp m with m | m
    · exact n m
    · have e : a = D := by simpa using m
      subst e
      rw [hd] at h; cases h⟩⟩
  have g : (ρ ++ [D])[mh.length]? = some D := by rw [← rh.len]; simp
  refine ⟨im, ⟨by simp [rh.len], ?_, fun n a u e1 e2 => ?_⟩, g⟩
  · rw [List.nodup_append]
    exact ⟨rh.nd, by simp, fun a m b mb => by simp at mb; rw [mb]; exact fun q => nd (by rw [← q]; exact m)⟩
  · by_cases hn : n < mh.length
    · rw [List.getElem?_append_left (by rw [rh.len]; exact hn)] at e1
      rw [List.getElem?_append_left hn] at e2
      exact (rh.ob n a u e1 e2).im im
    · have hl := (List.getElem?_eq_some_iff.mp e2).1
      rw [List.length_append, List.length_singleton] at hl
      have hn : n = mh.length := by omega
      subst hn
      rw [g] at e1
      cases e1
      simp at e2
      subst e2
      rw [hd]
      exact r.im im
theorem Ext.grow {ρ ρ' : List Addr} {H H' : Hp} {D : Addr} {o : HO} (e : Ext ρ H ρ' H') (hD : H D = none) : Ext ρ H ρ' (upd H' D o) :=
  ⟨e.pre, fun a u h n => by rw [upd_ne (ne_of_none h hD)]; exact e.keep a u h n⟩
theorem lc_of {di : DI} {own : List Nat} {g : DG} {tt : DB} {te : DE} {σ : St} {H : Hp} {Q : VK} (h : TEof T W rt (lcD di own g tt te) σ H Q) : tLc (TIof T W rt di) (TGof T (OwnP own) rt g) (TTof T NoX rt tt) (TEof T NoX rt te) own σ H Q := by
  obtain ⟨ρ0, env, mh0, rh0, rs0, w⟩ := h
  refine (Want.bind (rel := ItOk T) rh0 rs0 w).mono fun J H1 ⟨ρ1, mh1, nxt, e1, rh1, rs1, ok, w1⟩ => ?_
  intro D hD
  cases er : lcL nxt g tt te rt (wipeE env own) rt.fuel 0 [] mh1 with
  | none => rw [er] at w1; exact w1.elim
  | some r =>
    obtain ⟨racc, rmh⟩ := r
    rw [er] at w1
    have nD : D ∉ ρ1 := rh1.out hD
    refine ⟨fun i m H => ∃ ρ acc mh vs, Ext ρ1 H1 ρ H ∧ RH T ρ mh H ∧ H D = some (.lst vs) ∧ D ∉ ρ ∧ RVs T ρ H acc.reverse vs ∧ acc.length ≤ i ∧ lcL nxt g tt te rt (wipeE env own) m i acc mh = some (racc, rmh),
      ⟨rt.fuel, ρ1, [], mh1, [], .new hD nD, (rh1.new hD).2, upd_same, nD, .nil, Nat.le_refl _, er⟩, ?_⟩
    rintro i m H ⟨ρ, acc, mh, vs, x1, rh, hd, nd, ra, hl, hr⟩
    cases m with
    | zero => cases hr
    | succ n =>
      obtain ⟨o1, o2⟩ := ok i ρ H mh x1 rh
      unfold lcL at hr
      cases q : nxt i mh with
      | none => rw [q] at hr; cases hr
      | some r =>
        rw [q] at hr
        cases r with
        | none =>
          have hr := Option.some.inj hr
          obtain ⟨er1, er2⟩ := Prod.mk.inj hr
          refine .inl ⟨o1 q, ?_⟩
          obtain ⟨im, rh2, gD⟩ := rh.adopt (o := .lst acc.reverse) hd nd ⟨vs, rfl, ra⟩
          rw [← er1, ← er2] at w1
          obtain ⟨nw, pr, hn⟩ := x1.pre
          refine w1 (.ref D) (ρ ++ [D]) H ⟨⟨nw ++ [D], by rw [pr, List.append_assoc], fun a m => ?_⟩, x1.keep⟩ rh2 ?_
          · rcases List.mem_append.mp m with m | m
            · exact hn a m
            · have e : a = D := by simpa using m
              rw [e]; exact hD
          · unfold RV; exact ⟨D, rfl, gD⟩
        | some v =>
          obtain ⟨g1, g2⟩ := o2 v q
          dsimp only at hr
          refine .inr ⟨g1, fun H' => ∃ ρ acc mh vs, Ext ρ1 H1 ρ H' ∧ RH T ρ mh H' ∧ H' D = some (.lst vs) ∧ D ∉ ρ ∧ RVs T ρ H' acc.reverse vs ∧ acc.length ≤ i + 1 ∧ lcL nxt g tt te rt (wipeE env own) n (i + 1) acc mh = some (racc, rmh),
            fun H' h => ⟨n, Nat.lt_succ_self n, h⟩, fun x H' y => ?_⟩
          obtain ⟨x2, rh2, rv⟩ := g2 x H' y
          have x12 := x1.trans x2 rh.ne
          refine ⟨ρ, wipeE env own, mh, v, rh2, ((rs1.mono x12).wipe_ own), rv, ?_⟩
          have hd2 := x2.keep D _ hd nd
          have ra2 := ra.mono x2
          cases qg : g rt v (wipeE env own) mh with
          | nx e h =>
            rw [qg] at hr
            dsimp only at hr
            intro σ' ρ' H2 hP x3 rh3 rs3
            refine ⟨by rw [hP, wipe_wipe], ρ', e, h, rh3, rs3, ?_⟩
            have hd3 := x3.keep D _ hd2 nd
            have nd3 := x3.out hd2 nd
            have ra3 := ra2.mono x3
            have x13 := x12.trans x3 rh2.ne
            cases qt : tt rt e h with
            | ok b h2 =>
              rw [qt] at hr
              intro b' ρ4 H4 x4 rh4 eb
              subst eb
              have hd4 := x4.keep D _ hd3 nd3
              have nd4 := x4.out hd3 nd3
              have ra4 := ra3.mono x4
              have x14 := x13.trans x4 rh3.ne
              cases b with
              | false => exact iteF ⟨ρ4, acc, h2, vs, x14, rh4, hd4, nd4, ra4, by omega, hr⟩
              | true =>
                dsimp only at hr
                refine iteT ⟨ρ4, e, h2, rh4, rs3.mono x4, ?_⟩
                cases qe : te rt e h2 with
                | ok z h3 =>
                  rw [qe] at hr
                  dsimp only at hr
                  split at hr
                  · rename_i hi
                    have hi : i + 1 ≤ lim := Nat.le_of_ble_eq_true hi
                    intro yv ρ5 H5 x5 rh5 ry
                    have hd5 := x5.keep D _ hd4 nd4
                    have nd5 := x5.out hd4 nd4
                    have ra5 := ra4.mono x5
                    have hlen : vs.length = acc.length := by rw [ra5.len, List.length_reverse]
                    refine ⟨vs, hd5, by rw [hlen, ← lim_eq]; omega, ρ5, z :: acc, h3, vs ++ [yv], (x14.trans x5 rh4.ne).grow hD, rh5.grow hd5 nd5, upd_same, nd5, ?_, by rw [List.length_cons]; omega, hr⟩
                    rw [List.reverse_cons]
                    exact (ra5.append (.cons ry .nil)).im (Ims.grow hd5)
                  · cases hr
                | exc xx h3 => rw [qe] at hr; cases hr
                | stuck => rw [qe] at hr; cases hr
            | exc xx h2 => rw [qt] at hr; cases hr
            | stuck => rw [qt] at hr; cases hr
          | rt v2 h => rw [qg] at hr; cases hr
          | bk e h => rw [qg] at hr; cases hr
          | ct e h => rw [qg] at hr; cases hr
          | exc xx e h => rw [qg] at hr; cases hr
          | stuck => rw [qg] at hr; cases hr
end
end Vf
end L2
end
section
/-! VI0: set(xs) of a list or a tuple, whatever is told of the set. -/
namespace L2
namespace Vf
open PySem PySem.Spec PyProof.Rows
section
variable {P : Program} {w : World} {A : Around} {E : Value → Shared → Prop} {s : Shared}
/-- what is told of the set at S behind i items -/
structure Told (P : Program) (w : World) (S : Addr) (n : Nat) (Pv : Nat → Value → Prop) (In : Nat → Heap → Prop) : Prop where
  stay : ∀ i h h', In i h → (∀ o, h.get? S = some o → h'.get? S = some o) → In i h'
  add : ∀ (A : Around) (E : Value → Shared → Prop) i v (s : Shared) (Q : Bool → Shared → Prop), i < n → Pv i v → In i s.heap →
    (∀ b h' tk, s.toks ≤ tk → Heap.SameBut S s.heap h' → In (i + 1) h' → Q b { s with heap := h', toks := tk }) → wpAny (model P w) A (setAdd S v) Q E s
theorem told_loop {I : Addr} {fp wr : List Addr} {G : Array GenState → Array GenState → Prop} {n : Nat} {Pv : Nat → Value → Prop} {St : Nat → Shared → Prop} {R : Result → Shared → Prop} {In : Nat → Heap → Prop} {S : Addr}
    (W : WalksS P w A.in1 I fp wr G n Pv St) (hSf : S ∉ fp) (T : Told P w S n Pv In) : ∀ (k i : Nat) (s : Shared), i + k = n → St i s → In i s.heap →
      (∀ s', Moved (S :: wr) G s s' → In n s'.heap → R (.ok (.ret .none)) s') → codeAny (model P w) A (.builtin "set.update.loop" ⟨[.ref S, .ref I], []⟩) R s := by
  have out : S ∉ wr := fun h => hSf (W.sub _ h)
  intro k
  induction k with
  | zero =>
    intro i s hk st hI hR
    obtain rfl : i = n := hk
    refine codeAny_builtin F.entry_set_update_loop ?_
    rw [Around.under_plainId F.plain_set_update_loop _]
    show wpAny _ A.in1 (pyNext (.ref I) >>= _) _ _ s
    refine wpAny_bind (W.done s _ _ st fun s' hm => wpAny_pure (hR s' (hm.mono fun b hb => List.mem_cons_of_mem _ hb) (T.stay _ _ _ hI fun o e => hm.heap S o out e)))
  | succ k ih =>
    intro i s hk st hI hR
    have hlt : i < n := by omega
    refine codeAny_builtin F.entry_set_update_loop ?_
    rw [Around.under_plainId F.plain_set_update_loop _]
    show wpAny _ A.in1 (pyNext (.ref I) >>= _) _ _ s
    refine wpAny_bind (W.item i s _ _ hlt st fun v s1 hP st1 hm => ?_)
    show wpAny _ A.in1 (holding [v] (setAdd S v) >>= _) _ _ s1
    refine wpAny_bind (wpAny_holding (T.add _ _ i v s1 _ hlt hP (T.stay _ _ _ hI fun o e => hm.heap S o out e) fun b h2 tk htk hsb hI2 => ?_))
    refine wpAny_pure ⟨plainId_quiet F.plain_set_update_loop _, ih (i + 1) _ (by omega) (W.frame _ s1 _ _ st1 htk fun b hb o e => ?_) hI2 fun s2 hm2 hI3 => ?_⟩
    · rw [hsb.2 b (fun h : b = S => hSf (by rw [← h]; exact hb))]; exact e
    · refine hR s2 (Moved.trans W.gtrans ((hm.mono fun b hb => List.mem_cons_of_mem _ hb).then_heap htk fun b o hb e => ?_) hm2) hI3
      rw [hsb.2 b (fun h : b = S => hb (by rw [h]; exact List.mem_cons_self))]; exact e
abbrev freshSet (w : World) : Obj := { cls := .type "set", dict := none, data := .set #[] 0 (.fresh 0 0 (!w.params.followText "set-order")) }
set_option maxHeartbeats 6400000 in
theorem set_of_list {l : Addr} {items : Array Value} {In : Nat → Heap → Prop} {Q : Value → Shared → Prop} (hh : A.handled = none) (hl : s.heap.IsList l items)
    (T : Told P w s.heap.objs.size items.size (fun i v => items[i]? = some v) In) (h0 : ∀ h' : Heap, h'.get? s.heap.objs.size = some (freshSet w) → In 0 h')
    (h : ∀ (h' : Heap) (tk : Nat), In items.size h' → (∀ b o, s.heap.get? b = some o → h'.get? b = some o) → Q (.ref s.heap.objs.size) { s with heap := h', toks := tk }) :
    wpAny (model P w) A (call (.type "set") [.ref l]) Q E s := by
  obtain ⟨c, tl, mro⟩ := F.called_set.mro
  have q0 := F.called_set.made
  have q1 := F.called_set.sub
  refine wpAny_call (codeAny_of_tree ?_)
  show wpAny _ _ (callAny (.type "set") _) _ _ _
  refine wpAny_pure ⟨Code.quiet_builtin _ (by decide +kernel), codeAny_builtin F.entry_type_call ?_⟩
  rw [Around.under_plain (weight_type_call_type "set" [.ref l] []) rfl]
  have q2 := F.called_set.notType
  have q3 := F.called_set.canCreate
  have q4 := F.typeCall_set_1 (.ref l)
  repeat (any_goals (first | assumption | wp_step))
  refine codeAny_mono (code_set_led1 (.ref l) (E := E) (Q₁ := fun obj s₁ => obj = .ref s.heap.objs.size ∧ s₁ = { s with heap := s.heap.push (freshSet w) }) ⟨rfl, rfl⟩) fun r s₁ hr => ?_
  cases r with
  | error e => exact hr
  | ok fl =>
    cases fl with
    | ret obj =>
      obtain ⟨rfl, rfl⟩ := hr
      have gS : (s.heap.push (freshSet w)).get? s.heap.objs.size = some (freshSet w) := Heap.get?_push_size _ rfl
      have tS : Shared.TypeIs { s with heap := s.heap.push (freshSet w) } (.ref s.heap.objs.size) "set" := ⟨_, gS, rfl⟩
      have q5 := F.called_set.init.lookup
      have q6 := F.called_set.init.bind (.ref s.heap.objs.size)
      repeat (any_goals (first | assumption | wp_step))
      refine codeAny_mono (codeAny_call_builtin (R := wants (fun r s₂ => r = .none ∧ ∃ h' tk, s₂ = { s with heap := h', toks := tk } ∧ In items.size h' ∧
          (∀ b o, s.heap.get? b = some o → h'.get? b = some o)) E) F.called_set.init.plain F.entry_set_init (check_set_init_1 tS ?_)) fun r₂ s₂ hr₂ => ?_
      · obtain ⟨⟨oc, od, odt, os⟩, hol, hcl, nl, hdl⟩ := hl
        simp only at hcl hdl
        subst hcl; subst hdl
        have gl : (s.heap.push (freshSet w)).get? l = some { cls := .type "list", dict := od, data := .seq items nl, slots := os } := Heap.get?_push_of_some _ hol
        have q7 := F.sub_list_set
        have q8 := F.sub_list_frozenset
        have q9 : (Value.type "list" == Value.type "dict") = false := by decide
        have il : (s.heap.push (freshSet w)).IsList l items := ⟨_, gl, rfl, nl, rfl⟩
        unfold Builtin.«set.__init__» noKeywords Builtin.Frozenset.updateFrom
        generalize hPI : pyIter = PI
        wp_walk
        subst hPI
        refine wpAny_pyIter_list il ?_
        refine wpAny_bind (wpAny_runValue ?_)
        have hlS : l < s.heap.objs.size := Heap.lt_size hol
        have h3 : A.in1.in1.in1.handled = none := by simp [hh]
        have z1 : (s.heap.push (freshSet w)).objs.size = s.heap.objs.size + 1 := Heap.size_push ..
        have nI : l ≠ (s.heap.push (freshSet w)).objs.size := by rw [Heap.size_push]; exact Nat.ne_of_lt (Nat.lt_succ_of_lt hlS)
        have nS : s.heap.objs.size ∉ [(s.heap.push (freshSet w)).objs.size, l] := by
          rw [Heap.size_push]; simp only [List.mem_cons, List.mem_singleton, List.not_mem_nil, or_false, not_or]
          exact ⟨Nat.ne_of_lt (Nat.lt_succ_self _), Nat.ne_of_gt hlS⟩
        refine told_loop ((Walks.list h3 _ l nI items).toS) nS T items.size 0 _ (Nat.zero_add _) ⟨⟨_, Heap.get?_push_size _ rfl, rfl, rfl⟩, (il.push _)⟩ (h0 _ (Heap.get?_push_of_some _ gS)) fun s' hm hI => ?_
        obtain ⟨h', g2, d', tk', os'⟩ := s'
        have eg : g2 = s.gens := hm.gens
        have ed : d' = s.drawn := hm.drawn
        have eo : os' = s.os := hm.os
        subst eg; subst ed; subst eo
        show wpAny _ _ _ _ _ _
        refine wpAny_pure ?_
        show wpAny _ _ (ret Value.none) _ _ _
        refine wpAny_pure ⟨rfl, h', tk', rfl, hI, fun b o e => ?_⟩
        have b0 : b < s.heap.objs.size := Heap.lt_size e
        have b2 : b ≠ (s.heap.push (freshSet w)).objs.size := by rw [Heap.size_push]; exact Nat.ne_of_lt (Nat.lt_succ_of_lt b0)
        exact hm.heap b o (by simp only [List.mem_cons, List.mem_singleton, List.not_mem_nil, or_false, not_or]; exact ⟨Nat.ne_of_lt b0, b2⟩) (Heap.get?_push_of_some _ (Heap.get?_push_of_some _ e))
      · cases r₂ with
        | error e => exact hr₂
        | ok fl₂ =>
          cases fl₂ with
          | ret r =>
            obtain ⟨rfl, h', tk, rfl, hI, hk⟩ := hr₂
            repeat (any_goals (first | assumption | wp_step))
            exact h _ _ hI hk
          | _ => exact hr₂.elim
    | _ => exact hr.elim
end
end Vf
end L2
end
section
/-! VI: built-ins and methods. -/
namespace L2
namespace Vf
open PySem PySem.Spec PyProof.Rows
def lenM : MV → MH → Option Nat
  | .str cs, _ => if Nat.ble cs.length lim then some cs.length else none
  | .tup xs, _ => some xs.length
  | .fl xs, _ => some xs.length
  | .loc n, mh => match mh[n]? with
    | some (.lst xs) => some xs.length
    | some (.dct kvs) => some kvs.length
    | none => none
  | .wd i ks vs, _ => if ks.isEmpty then none else some (ks.zip vs).length
  | _, _ => none
def lenN : PN := fun as mh => match as with
  | [a] => match lenM a mh with
    | some n => some (.int n, mh)
    | none => none
  | _ => none
def absN : PN := fun as mh => match as with
  | [.int i] => some (.int (if i < 0 then -i else i), mh)
  | _ => none
def maxN : PN := fun as mh => match as with
  | [.int i, .int j] => some (.int (if j > i then j else i), mh)
  | _ => none
def minN : PN := fun as mh => match as with
  | [.int i, .int j] => some (.int (if j < i then j else i), mh)
  | _ => none
def intN : PN := fun as mh => match as with
  | [.int i] => some (.int i, mh)
  | [.bl k] => some (.int (if k then 1 else 0), mh)
  | _ => none
def divmodN : PN := fun as mh => match as with
  | [.int i, .int j] => if decide (0 < j) && decide (j < 1073741824) then some (.pr [.int (i / j), .int (i % j)], mh) else none
  | _ => none
/-- a value's class, among the built-in ones -/
def tyOfM : MV → MH → Option Nat
  | .non, _ => some 0
  | .bl _, _ => some 1
  | .int _, _ => some 2
  | .str _, _ => some 3
  | .fl _, _ => some 4
  | .tup _, _ => some 5
  | .loc n, mh => match mh[n]? with
    | some (.lst _) => some 4
    | some (.dct _) => some 6
    | none => none
  | _, _ => none
def kitB (a b : Nat) : Option Bool := if Nat.ble a 6 && (Nat.ble 1 b && Nat.ble b 6) then some (Nat.beq a b || (Nat.beq a 1 && Nat.beq b 2)) else none
def isiN : PN := fun as mh => match as with
  | [x, .ty n] => match tyOfM x mh with
    | some m => match kitB m n with
      | some r => some (.bl r, mh)
      | none => none
    | none => none
  | _ => none
def allB : List MV → Option Bool
  | [] => some true
  | .bl b :: r => match allB r with
    | some c => some (b && c)
    | none => none
  | _ :: _ => none
def anyB : List MV → Option Bool
  | [] => some false
  | .bl b :: r => match anyB r with
    | some c => some (b || c)
    | none => none
  | _ :: _ => none
def allN : PN := fun as mh => match as with
  | [.loc n] => match mh[n]? with
    | some (.lst xs) => match allB xs with
      | some b => some (.bl b, mh)
      | none => none
    | _ => none
  | _ => none
def anyN : PN := fun as mh => match as with
  | [.loc n] => match mh[n]? with
    | some (.lst xs) => match anyB xs with
      | some b => some (.bl b, mh)
      | none => none
    | _ => none
  | _ => none
def isRefM : MV → Bool
  | .tup _ => true
  | .loc _ => true
  | .fl _ => true
  | _ => false
def reprN : PN := fun as mh => match as with
  | [a] => if isRefM a then (match fz mh 60 a with
      | some d => if d.showable && (!d.hasDict && (Nat.ble d.depth 64 && Nat.ble d.shown.length lim)) then some (.str d.shown.cps.toList, mh) else none
      | none => none) else none
  | _ => none
def tupleN : PN := fun as mh => match as with
  | [.loc n] => match mh[n]? with
    | some (.lst xs) => some (.tup xs, mh)
    | _ => none
  | [.fl xs] => some (.tup xs, mh)
  | [.tup xs] => some (.tup xs, mh)
  | _ => none
def listN : PN := fun as mh => match as with
  | [.loc n] => match mh[n]? with
    | some (.lst xs) => some (.loc mh.length, mh ++ [.lst xs])
    | _ => none
  | [.fl xs] => some (.loc mh.length, mh ++ [.lst xs])
  | [.tup xs] => some (.loc mh.length, mh ++ [.lst xs])
  | _ => none
section
variable {T : Tx} {X : Cx} {W : WX} {rt : Rt} {pos p : Pos} {e : Expr} {es : List Expr}
theorem se_blt {id : String} {x : Str} {pn : PN} {dl : DL} (hc : CallR X (.builtin id) (RNof T pn)) (hg : Gl X x) (hm : X.mg x = none) (hv : bootBuiltins x = some (.builtin id)) (ha : PA X (e :: es) (TAof T W rt dl)) (hn : x ≠ "__name__") (hd : (x == ("__debug__" : Str)) = false)
    (he : starEach (e :: es) X.env = (false, eval e X.env) :: starEach es X.env) (hpl : (backTo pos (starEach es X.env)).any (·.1) = false) : PE X (.Call (.Name x p) (e :: es) [] pos) (TEof T W rt (opND pn dl)) :=
  (pe_callB hc hg hm hv ha hn hd he hpl).imp fun σ H Q ⟨ρ, env, mh, rh, rs, w⟩ => (Want.bind rh rs w).mono fun xs H1 ⟨ρ1, mh1, as, e1, rh1, rs1, ra, w1⟩ => by
    obtain ⟨m, mh2, hp, k⟩ := lft_want w1
    exact ⟨ρ1, as, mh1, m, mh2, rh1, ra, hp, k⟩
theorem se_bty {id : String} {x : Str} {pn : PN} {dl : DL} (hc : CallR X (.type id) (RNof T pn)) (hg : Gl X x) (hm : X.mg x = none) (hv : bootBuiltins x = some (.type id)) (ha : PA X (e :: es) (TAof T W rt dl)) (hn : x ≠ "__name__") (hd : (x == ("__debug__" : Str)) = false)
    (he : starEach (e :: es) X.env = (false, eval e X.env) :: starEach es X.env) (hpl : (backTo pos (starEach es X.env)).any (·.1) = false) : PE X (.Call (.Name x p) (e :: es) [] pos) (TEof T W rt (opND pn dl)) :=
  (pe_callTy hc hg hm hv ha hn hd he hpl).imp fun σ H Q ⟨ρ, env, mh, rh, rs, w⟩ => (Want.bind rh rs w).mono fun xs H1 ⟨ρ1, mh1, as, e1, rh1, rs1, ra, w1⟩ => by
    obtain ⟨m, mh2, hp, k⟩ := lft_want w1
    exact ⟨ρ1, as, mh1, m, mh2, rh1, ra, hp, k⟩
theorem len_ok (hw : WdOk T X) (hK : X.K = T.K) : CallR X (.builtin "len") (RNof T lenN) := by
  intro pins s σ H xs us Q I rs ⟨ρ, as, mh, m, mh', rh, ra, hp, k⟩
  unfold lenN at hp
  split at hp
  · rename_i a
    split at hp
    · rename_i n en
      cases hp
      obtain ⟨x, rfl, r1⟩ := ra.one
      have big : ∀ kvs, kvOf a mh = some kvs → n = kvs.length → wpAny (model X.prog X.w) X.A (call (.builtin "len") us) (EP X pins σ Q) X.xe s := by
        intro kvs ek en
        obtain ⟨p, l, rfl, rk, dr⟩ := kv_of hw rh r1 ek
        rw [Vals.ref1 rs]
        refine w_len I dr fun t s' I' => ⟨.int (l.length : Nat), H, I', ⟨t, rfl⟩, ?_⟩
        rw [rk.len, ← en]
        exact k.pure rh .int
      have LV : LenV X.K x H n → wpAny (model X.prog X.w) X.A (call (.builtin "len") us) (EP X pins σ Q) X.xe s := fun h => call_len pins s σ H _ us Q I rs ⟨x, n, rfl, h, k.pure rh .int⟩
      unfold lenM at en
      split at en
      · split at en
        · rename_i hz
          cases en; unfold RV at r1; subst r1
          exact LV ⟨by rw [S_len, ← lim_eq]; exact Nat.le_of_ble_eq_true hz, (S_len _).symm⟩
        · cases en
      · cases en; unfold RV at r1
        obtain ⟨p, vs, rfl, t, r⟩ := r1
        exact LV (.inr ⟨vs, by rw [hK]; exact t.sq, r.len.symm⟩)
      · cases en; unfold RV at r1
        obtain ⟨p, vs, rfl, t, r⟩ := r1
        exact LV (.inl ⟨vs, by rw [hK]; exact t.sq, r.len.symm⟩)
      · split at en
        · rename_i hn
          cases en
          obtain ⟨p, vs, rfl, g, h1, r⟩ := loc_lst rh r1 hn
          exact LV (.inl ⟨vs, SqL.of h1, r.len.symm⟩)
        · rename_i kvs hn
          cases en
          refine big kvs ?_ rfl
          unfold kvOf
          simp only [hn]
        · cases en
      · split at en
        · cases en
        · rename_i hn
          cases en
          refine big _ ?_ rfl
          show (if _ then none else some _) = _
          rw [if_neg hn]
      · cases en
    · cases hp
  · cases hp
theorem abs_ok : CallR X (.builtin "abs") (RNof T absN) := by
  intro pins s σ H xs us Q I rs ⟨ρ, as, mh, m, mh', rh, ra, hp, k⟩
  unfold absN at hp
  split at hp
  · cases hp
    obtain ⟨x, rfl, r1⟩ := ra.one
    unfold RV at r1; subst r1
    exact call_abs pins s σ H _ us Q I rs ⟨_, rfl, k.pure rh .int⟩
  · cases hp
theorem max_ok (hc : X.calm = true) : CallR X (.builtin "max") (RNof T maxN) := by
  intro pins s σ H xs us Q I rs ⟨ρ, as, mh, m, mh', rh, ra, hp, k⟩
  unfold maxN at hp
  split at hp
  · cases hp
    obtain ⟨x, y, rfl, r1, r2⟩ := ra.two
    unfold RV at r1 r2; subst r1 r2
    exact call_max2 hc pins s σ H _ us Q I rs ⟨_, _, rfl, k.pure rh .int⟩
  · cases hp
theorem min_ok (hc : X.calm = true) : CallR X (.builtin "min") (RNof T minN) := by
  intro pins s σ H xs us Q I rs ⟨ρ, as, mh, m, mh', rh, ra, hp, k⟩
  unfold minN at hp
  split at hp
  · cases hp
    obtain ⟨x, y, rfl, r1, r2⟩ := ra.two
    unfold RV at r1 r2; subst r1 r2
    exact call_min2 hc pins s σ H _ us Q I rs ⟨_, _, rfl, k.pure rh .int⟩
  · cases hp
theorem int_ok : CallR X (.type "int") (RNof T intN) := by
  intro pins s σ H xs us Q I rs ⟨ρ, as, mh, m, mh', rh, ra, hp, k⟩
  unfold intN at hp
  split at hp
  · cases hp
    obtain ⟨x, rfl, r1⟩ := ra.one
    unfold RV at r1; subst r1
    exact call_int1 pins s σ H _ us Q I rs (.inl ⟨_, rfl, k.pure rh .int⟩)
  · cases hp
    obtain ⟨x, rfl, r1⟩ := ra.one
    unfold RV at r1; subst r1
    exact call_int1 pins s σ H _ us Q I rs (.inr ⟨_, rfl, k.pure rh .int⟩)
  · cases hp
theorem divmod_ok : CallR X (.builtin "divmod") (RNof T divmodN) := by
  intro pins s σ H xs us Q I rs ⟨ρ, as, mh, m, mh', rh, ra, hp, k⟩
  unfold divmodN at hp
  split at hp
  · split at hp
    · rename_i hc
      cases hp
      have hc := Bool.and_eq_true_iff.mp hc
      obtain ⟨x, y, rfl, r1, r2⟩ := ra.two
      unfold RV at r1 r2; subst r1 r2
      exact call_divmod pins s σ H _ us Q I rs ⟨_, _, rfl, ⟨of_decide_eq_true hc.1, of_decide_eq_true hc.2⟩, fun z hz => k.pr rh (.cons .int (.cons .int .nil)) hz⟩
    · cases hp
  · cases hp
theorem kit_ok {K : PySem.W.Frag} : ∀ {a b : Nat} {r : Bool}, kitB a b = some r → PySem.W.kitOne K (.type (tyN a)) (.type (tyN b)) = some r := by
  intro a b r h
  unfold kitB at h
  split at h
  · rename_i hc
    have hc := Bool.and_eq_true_iff.mp hc
    have hd := Bool.and_eq_true_iff.mp hc.2
    have h1 := Nat.le_of_ble_eq_true hc.1
    have h2 := Nat.le_of_ble_eq_true hd.1
    have h3 := Nat.le_of_ble_eq_true hd.2
    cases h
    have ha : a = 0 ∨ a = 1 ∨ a = 2 ∨ a = 3 ∨ a = 4 ∨ a = 5 ∨ a = 6 := by omega
    have hb : b = 1 ∨ b = 2 ∨ b = 3 ∨ b = 4 ∨ b = 5 ∨ b = 6 := by omega
    rcases ha with rfl | rfl | rfl | rfl | rfl | rfl | rfl <;> rcases hb with rfl | rfl | rfl | rfl | rfl | rfl <;> rfl
  · cases h
theorem tyOf_ok {ρ : List Addr} {H : Hp} {mh : MH} {m : MV} {x : V} {n : Nat} (rh : RH T ρ mh H) (r : RV T ρ H m x) (h : tyOfM m mh = some n) : TyX T.K H x (.type (tyN n)) := by
  unfold tyOfM at h
  split at h
  · cases h; unfold RV at r; subst r; exact .base .non
  · cases h; unfold RV at r; subst r; exact .base (.bl _)
  · cases h; unfold RV at r; subst r; exact .base (.int _)
  · cases h; unfold RV at r; subst r; exact .base (.str _)
  · cases h; unfold RV at r
    obtain ⟨p, vs, rfl, t, _⟩ := r
    rcases t with ⟨⟨o, t⟩, _⟩ | ⟨o, its, n, e1, e2, _⟩
    · exact .base (.frz t)
    · exact .kList e1 e2
  · cases h; unfold RV at r
    obtain ⟨p, vs, rfl, t, _⟩ := r
    rcases t with ⟨⟨o, t, _⟩, _⟩ | ⟨o, its, n, e1, e2, _⟩
    · exact .fTuple t
    · exact .kTuple e1 e2
  · split at h
    · rename_i en
      cases h
      obtain ⟨p, vs, rfl, g, h1, _⟩ := loc_lst rh r en
      exact .base (.lst h1)
    · rename_i en
      cases h
      unfold RV at r
      obtain ⟨a, rfl, h1⟩ := r
      obtain ⟨vs, e2, h2⟩ := rh.ob _ a _ h1 en
      exact .base (.dK e2)
    · cases h
  · cases h
theorem isi_ok (hK : X.K = T.K) : CallR X (.builtin "isinstance") (RNof T isiN) := by
  intro pins s σ H xs us Q I rs ⟨ρ, as, mh, m, mh', rh, ra, hp, k⟩
  unfold isiN at hp
  split at hp
  · rename_i a n
    split at hp
    · rename_i l el
      split at hp
      · rename_i r er
        cases hp
        obtain ⟨x, y, rfl, r1, r2⟩ := ra.two
        have ty := tyOf_ok rh r1 el
        unfold RV at r2; subst r2
        exact call_isi pins s σ H _ us Q I rs ⟨x, .ty (tyN n), .type (tyN l), .type (tyN n), r, rfl, .ty _, by rw [hK]; exact ty, kit_ok er, k.pure rh .bl⟩
      · cases hp
    · cases hp
  · cases hp
theorem allB_rel {ρ : List Addr} {H : Hp} : ∀ {xs : List MV} {vs : List V} {b : Bool}, RVs T ρ H xs vs → allB xs = some b → ∃ bs : List Bool, vs = bs.map V.bl ∧ bs.all id = b
  | [], vs, b, r, h => by unfold RVs at r; subst r; cases h; exact ⟨[], rfl, rfl⟩
  | x :: xs, vs, b, r, h => by
    unfold RVs at r
    obtain ⟨v, r', rfl, h1, h2⟩ := r
    unfold allB at h
    split at h
    · rename_i e; cases e
    · rename_i c rr e
      cases e
      split at h
      · rename_i d ed
        cases h
        obtain ⟨bs, rfl, e2⟩ := allB_rel h2 ed
        unfold RV at h1; subst h1
        exact ⟨c :: bs, rfl, by rw [List.all_cons, e2]; rfl⟩
      · cases h
    · cases h
theorem anyB_rel {ρ : List Addr} {H : Hp} : ∀ {xs : List MV} {vs : List V} {b : Bool}, RVs T ρ H xs vs → anyB xs = some b → ∃ bs : List Bool, vs = bs.map V.bl ∧ bs.any id = b
  | [], vs, b, r, h => by unfold RVs at r; subst r; cases h; exact ⟨[], rfl, rfl⟩
  | x :: xs, vs, b, r, h => by
    unfold RVs at r
    obtain ⟨v, r', rfl, h1, h2⟩ := r
    unfold anyB at h
    split at h
    · rename_i e; cases e
    · rename_i c rr e
      cases e
      split at h
      · rename_i d ed
        cases h
        obtain ⟨bs, rfl, e2⟩ := anyB_rel h2 ed
        unfold RV at h1; subst h1
        exact ⟨c :: bs, rfl, by rw [List.any_cons, e2]; rfl⟩
      · cases h
    · cases h
theorem all_ok (hc : X.calm = true) : CallR X (.builtin "all") (RNof T allN) := by
  intro pins s σ H xs us Q I rs ⟨ρ, as, mh, m, mh', rh, ra, hp, k⟩
  unfold allN at hp
  split at hp
  · split at hp
    · rename_i en
      split at hp
      · rename_i b eb
        cases hp
        obtain ⟨x, rfl, r1⟩ := ra.one
        obtain ⟨p, vs, rfl, g, h1, r⟩ := loc_lst rh r1 en
        obtain ⟨bs, rfl, e2⟩ := allB_rel r eb
        refine cr_all hc pins s σ H _ us Q I rs ⟨p, bs, rfl, SqL.of h1, ?_⟩
        rw [e2]
        exact k.pure rh .bl
      · cases hp
    · cases hp
  · cases hp
theorem any_ok (hc : X.calm = true) : CallR X (.builtin "any") (RNof T anyN) := by
  intro pins s σ H xs us Q I rs ⟨ρ, as, mh, m, mh', rh, ra, hp, k⟩
  unfold anyN at hp
  split at hp
  · split at hp
    · rename_i en
      split at hp
      · rename_i b eb
        cases hp
        obtain ⟨x, rfl, r1⟩ := ra.one
        obtain ⟨p, vs, rfl, g, h1, r⟩ := loc_lst rh r1 en
        obtain ⟨bs, rfl, e2⟩ := anyB_rel r eb
        refine cr_any hc pins s σ H _ us Q I rs ⟨p, bs, rfl, SqL.of h1, ?_⟩
        rw [e2]
        exact k.pure rh .bl
      · cases hp
    · cases hp
  · cases hp
theorem ref_of {ρ : List Addr} {H : Hp} {m : MV} {x : V} (r : RV T ρ H m x) (h : isRefM m = true) : ∃ a, x = .ref a := by
  cases m with
  | tup xs => unfold RV at r; obtain ⟨a, _, rfl, _⟩ := r; exact ⟨a, rfl⟩
  | fl xs => unfold RV at r; obtain ⟨a, _, rfl, _⟩ := r; exact ⟨a, rfl⟩
  | loc xs => unfold RV at r; obtain ⟨a, rfl, _⟩ := r; exact ⟨a, rfl⟩
  | _ => cases h
theorem repr_ok (hK : X.K = T.K) (hg : X.A.guards = some []) (hu : X.A.units + 200 < cLine) : CallR X (.builtin "repr") (RNof T reprN) := by
  intro pins s σ H xs us Q I rs ⟨ρ, as, mh, m, mh', rh, ra, hp, k⟩
  unfold reprN at hp
  split at hp
  · rename_i a
    split at hp
    · rename_i hr
      split at hp
      · rename_i d ed
        split at hp
        · rename_i hc
          cases hp
          have hc := Bool.and_eq_true_iff.mp hc
          have hd := Bool.and_eq_true_iff.mp hc.2
          have he := Bool.and_eq_true_iff.mp hd.2
          obtain ⟨x, rfl, r1⟩ := ra.one
          have dp := fz_dp rh r1 ed
          obtain ⟨b, rfl⟩ := ref_of r1 hr
          rw [Vals.ref1 rs]
          obtain ⟨bs, rd⟩ := Dp.reads I d (.ref b) (.ref b) (by rw [hK]; exact dp) rfl
          have hnd : d.hasDict = false := by simpa using hd.1
          refine repr_of_reads' rd hc.1 (PyData.noDict_hsm hnd) hg ?_ (fun _ _ h => h) (fun h' u tk kp => ?_) ?_
          · have := Nat.le_of_ble_eq_true he.1
            omega
          · refine ⟨.str d.shown, H, I.kept kp, ⟨u, rfl⟩, ?_⟩
            have := k.pure rh (RV.str (T := T) (ρ := ρ) (H := H) (i := d.shown.cps.toList))
            rw [S_eta] at this
            exact this
          · rw [← lim_eq]; exact Nat.le_of_ble_eq_true he.2
        · cases hp
      · cases hp
    · cases hp
  · cases hp
theorem tuple_ok (hK : X.K = T.K) : CallR X (.type "tuple") (RNof T tupleN) := by
  intro pins s σ H xs us Q I rs ⟨ρ, as, mh, m, mh', rh, ra, hp, k⟩
  unfold tupleN at hp
  split at hp
  · split at hp
    · rename_i en
      cases hp
      obtain ⟨x, rfl, r1⟩ := ra.one
      obtain ⟨p, vs, rfl, g, h1, r⟩ := loc_lst rh r1 en
      exact call_tupleF pins s σ H _ us Q I rs ⟨p, vs, rfl, .inl ⟨SqL.of h1, k.tup rh r⟩⟩
    · cases hp
  · cases hp
    obtain ⟨x, rfl, r1⟩ := ra.one
    unfold RV at r1
    obtain ⟨p, vs, rfl, t, r⟩ := r1
    exact call_tupleF pins s σ H _ us Q I rs ⟨p, vs, rfl, .inl ⟨by rw [hK]; exact t.sq, k.tup rh r⟩⟩
  · cases hp
    obtain ⟨x, rfl, r1⟩ := ra.one
    have r0 := r1
    unfold RV at r1
    obtain ⟨p, vs, rfl, t, r⟩ := r1
    exact call_tupleF pins s σ H _ us Q I rs ⟨p, vs, rfl, .inr ⟨by rw [hK]; exact t.sq, k.pure rh r0⟩⟩
  · cases hp
theorem list_ok (hK : X.K = T.K) : CallR X (.type "list") (RNof T listN) := by
  intro pins s σ H xs us Q I rs ⟨ρ, as, mh, m, mh', rh, ra, hp, k⟩
  unfold listN at hp
  split at hp
  · split at hp
    · rename_i en
      cases hp
      obtain ⟨x, rfl, r1⟩ := ra.one
      obtain ⟨p, vs, rfl, g, h1, r⟩ := loc_lst rh r1 en
      exact call_list_of pins s σ H _ us Q I rs ⟨p, vs, rfl, .inl (SqL.of h1), fun z hz => k.lst rh r hz⟩
    · cases hp
  · cases hp
    obtain ⟨x, rfl, r1⟩ := ra.one
    unfold RV at r1
    obtain ⟨p, vs, rfl, t, r⟩ := r1
    exact call_list_of pins s σ H _ us Q I rs ⟨p, vs, rfl, .inl (by rw [hK]; exact t.sq), fun z hz => k.lst rh r hz⟩
  · cases hp
    obtain ⟨x, rfl, r1⟩ := ra.one
    unfold RV at r1
    obtain ⟨p, vs, rfl, t, r⟩ := r1
    exact call_list_of pins s σ H _ us Q I rs ⟨p, vs, rfl, .inr (by rw [hK]; exact t.sq), fun z hz => k.lst rh r hz⟩
  · cases hp
/-! ### methods -/
abbrev PM := MV → List MV → MH → Option (MV × MH)
def RMof (T : Tx) (p : PM) : V → List V → Hp → VK → Prop := fun x xs H Q => ∃ ρ a as mh m mh', RH T ρ mh H ∧ RV T ρ H a x ∧ RVs T ρ H as xs ∧ p a as mh = some (m, mh') ∧ Aft T ρ H m mh' Q
def isStrM : MV → MH → Bool
  | .str _, _ => true
  | _, _ => false
def isLstM : MV → MH → Bool
  | .fl _, _ => true
  | .loc n, mh => match mh[n]? with
    | some (.lst _) => true
    | _ => false
  | _, _ => false
def methD (ty : MV → MH → Bool) (p : PM) (d : DE) (dl : DL) : DE := bnd d fun a rt env mh => if ty a mh then bnd dl (fun as _ _ mh => lft (p a as mh)) rt env mh else .stuck
theorem str_ty {ρ : List Addr} {H : Hp} {mh : MH} {m : MV} {x : V} (K : PySem.W.Frag) (r : RV T ρ H m x) (h : isStrM m mh = true) : tyV K "str" x H := by
  unfold isStrM at h
  split at h
  · unfold RV at r; subst r; rfl
  · cases h
theorem lst_ty {ρ : List Addr} {H : Hp} {mh : MH} {m : MV} {x : V} (rh : RH T ρ mh H) (r : RV T ρ H m x) (h : isLstM m mh = true) : tyV T.K "list" x H := by
  unfold isLstM at h
  split at h
  · unfold RV at r
    obtain ⟨p, vs, rfl, t, _⟩ := r
    exact .inl ⟨rfl, vs, t.sq⟩
  · split at h
    · rename_i en
      obtain ⟨p, vs, rfl, g, h1, _⟩ := loc_lst rh r en
      exact .inl ⟨rfl, vs, SqL.of h1⟩
    · cases h
  · cases h
theorem se_meth {Ty id : String} {name : Str} {ty : MV → MH → Bool} {pm : PM} {o : Expr} {d : DE} {dl : DL} {apos : Pos} (pa : PlainAttrs Ty) (slot : Slot Ty name id) (hty : typeOf (.builtin id) = pure (.type "method_descriptor")) (hm : MtR X id (RMof T pm))
    (hv : ∀ ρ mh H m x, RH T ρ mh H → RV T ρ H m x → ty m mh = true → tyV X.K Ty x H) (ho : PE X o (TEof T W rt d)) (ha : PA X (e :: es) (TAof T W rt dl)) (hbase : attributeBase o name X.env (eval o X.env) = eval o X.env)
    (hfew : ((backTo pos (starEach (e :: es) X.env)).all (fun x => !x.1) && (backToKw pos (keywordEach [] X.env)).all (fun x => x.1.isSome)
      && decide ((e :: es).length + ([] : List Keyword).length + (if ([] : List Keyword).isEmpty then 0 else 1) < 30)) = true)
    (hline : (apos.endLine == pos.line) = true) (hs : starEach (e :: es) X.env = (false, eval e X.env) :: starEach es X.env) (hplain : (backTo pos (starEach es X.env)).any (·.1) = false) :
    PE X (.Call (.Attribute o name apos) (e :: es) [] pos) (TEof T W rt (methD ty pm d dl)) :=
  (pe_bm pa slot hty hm ho ha hbase hfew hline hs hplain).imp fun σ H Q ⟨ρ, env, mh, rh, rs, w⟩ => (Want.bind rh rs w).mono fun x H1 ⟨ρ1, mh1, a, e1, rh1, rs1, ra, w1⟩ => by
    split at w1
    · rename_i ht
      refine ⟨hv ρ1 mh1 H1 a x rh1 ra ht, (Want.bind (rel := RVs T) rh1 rs1 w1).mono fun xs H2 ⟨ρ2, mh2, as, e2, rh2, rs2, rb, w2⟩ => ?_⟩
      obtain ⟨m, mh3, hp, k⟩ := lft_want w2
      exact ⟨ρ2, a, as, mh2, m, mh3, rh2, ra.mono e2, rb, hp, k⟩
    · exact w1.elim
def appendM : PM := fun a as mh => match a, as with
  | .loc n, [v] => match mh[n]? with
    | some (.lst xs) => if Nat.blt xs.length lim then some (.non, mh.set n (.lst (xs ++ [v]))) else none
    | _ => none
  | _, _ => none
def strL (xs : List Str) : List MV := xs.map fun x => .str x.cps.toList
def splitM : PM := fun a as mh => match a, as with
  | .str z, [.str y] => if !y.isEmpty && Nat.ble (z.length + 2) lim then some (.loc mh.length, mh ++ [.lst (strL (Txt.split (S z) (S y)))]) else none
  | _, _ => none
def findM : PM := fun a as mh => match a, as with
  | .str z, [.str y] => some (.int (Txt.find (S z) (S y)), mh)
  | .str z, [.str y, .int i] => some (.int (Txt.find3 (S z) (S y) i), mh)
  | _, _ => none
theorem append_ok : MtR X "list.append" (RMof T appendM) := by
  intro pins s σ H x xs v us Q I rx rs ⟨ρ, a, as, mh, m, mh', rh, ra, rb, hp, k⟩
  unfold appendM at hp
  split at hp
  · split at hp
    · rename_i en
      split at hp
      · rename_i hz
        cases hp
        have hz : _ + 1 ≤ lim := Nat.le_of_ble_eq_true hz
        obtain ⟨p, vs, rfl, g, h1, r⟩ := loc_lst rh ra en
        obtain ⟨y, rfl, ry⟩ := rb.one
        obtain ⟨e3, rh3⟩ := rh.put (ho := .lst (vs ++ [y])) (o := .lst _) g ⟨_, rfl, r.append (.cons ry .nil)⟩
        exact mt_append pins s σ H _ _ v us Q I rx rs ⟨p, vs, y, rfl, rfl, h1, by rw [r.len, ← lim_eq]; omega, k _ ρ _ e3 rh3 .non⟩
      · cases hp
    · cases hp
  · cases hp
theorem RVs.strs {ρ : List Addr} {H : Hp} : ∀ (xs : List Str), RVs T ρ H (strL xs) (xs.map V.str)
  | [] => .nil
  | x :: xs => .cons (by unfold RV; rw [S_eta]) (RVs.strs xs)
theorem split_ok : MtR X "str.split" (RMof T splitM) := by
  intro pins s σ H x xs v us Q I rx rs ⟨ρ, a, as, mh, m, mh', rh, ra, rb, hp, k⟩
  unfold splitM at hp
  split at hp
  · rename_i z y
    split at hp
    · rename_i hc
      cases hp
      have hc := Bool.and_eq_true_iff.mp hc
      obtain ⟨u, rfl, ru⟩ := rb.one
      unfold RV at ra ru; subst ra ru
      refine mt_split pins s σ H _ _ v us Q I rx rs ⟨S z, S y, rfl, rfl, ?_, ?_, fun p hp => k.lst rh (.strs _) hp⟩
      · rw [S_len]
        cases y with
        | nil => exact absurd hc.1 (by decide)
        | cons c y => rfl
      · rw [S_len, ← lim_eq]; exact Nat.le_of_ble_eq_true hc.2
    · cases hp
  · cases hp
theorem find_ok : MtR X "str.find" (RMof T findM) := by
  intro pins s σ H x xs v us Q I rx rs ⟨ρ, a, as, mh, m, mh', rh, ra, rb, hp, k⟩
  unfold findM at hp
  split at hp
  · cases hp
    obtain ⟨u, rfl, ru⟩ := rb.one
    unfold RV at ra ru; subst ra ru
    exact mt_find pins s σ H _ _ v us Q I rx rs ⟨_, _, rfl, rfl, k.pure rh .int⟩
  · cases hp
    obtain ⟨u, w, rfl, ru, rw'⟩ := rb.two
    unfold RV at ra ru rw'; subst ra ru rw'
    exact mt_find3 pins s σ H _ _ v us Q I rx rs ⟨_, _, _, rfl, rfl, k.pure rh .int⟩
  · cases hp
end
end Vf
end L2
end
section
/-! VI1: sets of keys, of ints. -/
namespace L2
namespace Vf
open PySem PySem.Spec PyProof.Rows
/-! ### keys -/
def hasK (ks : List Key) (k : Key) : Bool := ks.any fun j => decide (j = k)
theorem hasK_app (a : List Key) (x k : Key) : hasK (a ++ [x]) k = (hasK a k || decide (x = k)) := by simp [hasK]
theorem hasK_iff {a : List Key} {k : Key} : hasK a k = true ↔ k ∈ a := by
  unfold hasK
  rw [List.any_eq_true]
  constructor
  · rintro ⟨x, h1, h2⟩
    rw [← of_decide_eq_true h2]; exact h1
  · intro h
    exact ⟨k, h, decide_eq_true rfl⟩
/-- the distinct ones, in their order -/
def ded : List Key → List Key → List Key
  | sn, [] => sn
  | sn, k :: r => if hasK sn k then ded sn r else ded (sn ++ [k]) r
theorem ded_grow : ∀ (r sn : List Key) (k : Key), ded sn (r ++ [k]) = if hasK (ded sn r) k then ded sn r else ded sn r ++ [k]
  | [], sn, k => rfl
  | x :: r, sn, k => by
    show (if hasK sn x then ded sn (r ++ [k]) else ded (sn ++ [x]) (r ++ [k])) = _
    rw [ded]
    split
    · exact ded_grow r sn k
    · exact ded_grow r _ k
theorem ded_mem : ∀ (r sn : List Key) (k : Key), hasK (ded sn r) k = (hasK sn k || hasK r k)
  | [], sn, k => by simp [ded, hasK]
  | x :: r, sn, k => by
    rw [ded]
    have e : hasK (x :: r) k = (decide (x = k) || hasK r k) := rfl
    split
    · rename_i hx
      rw [ded_mem r sn k, e]
      by_cases hk : x = k
      · subst hk; rw [hx]; rfl
      · rw [decide_eq_false hk]; rfl
    · rw [ded_mem r _ k, hasK_app, e, Bool.or_assoc]
theorem ded_le : ∀ (r sn : List Key), (ded sn r).length ≤ sn.length + r.length
  | [], sn => by simp [ded]
  | x :: r, sn => by
    rw [ded]
    split
    · have := ded_le r sn; simp; omega
    · have := ded_le r (sn ++ [x]); simp at this ⊢; omega
theorem told_keys {P : Program} {w : World} {S : Addr} {items : Array Value} {ks : List Key} (hp : Vals (ks.map kV) items.toList) (hb : ks.length + 1 < scanBound) :
    Told P w S items.size (fun i v => items[i]? = some v) (fun i h => h.SetOf (mixKind P w) S (hasK (ks.take i)) (ded [] (ks.take i)).length) := by
  have len : ks.length = items.size := by
    have := hp.length
    rw [List.length_map] at this
    rw [this, Array.length_toList]
  refine ⟨fun i h h' R k => setOf_at R k, fun A E i v s Q hi hv R hQ => ?_⟩
  have hik : i < ks.length := by omega
  obtain ⟨u, hu, ru⟩ := hp.get (i := i) (x := kV ks[i]) (by rw [List.getElem?_map, List.getElem?_eq_getElem hik]; rfl)
  have hv' : items.toList[i]? = some v := by rw [Array.getElem?_toList]; exact hv
  rw [hu] at hv'
  cases hv'
  have hcl := ded_le (ks.take i) []
  rw [List.length_take] at hcl
  unfold setAdd
  refine wpAny_holding ?_
  refine wpAny_bind ((mixKind P w).pyHash (k := ks[i]) (kV_is ru) ?_)
  refine wpAny_setAddHashed_of (knd := mixKind P w) (s := { s with toks := s.toks + 1 }) (kV_is ru) (key_scan ru) R (by simp at hcl; omega) fun h' hsb R2 => ?_
  refine hQ _ h' (s.toks + 1) (Nat.le_succ _) hsb ?_
  have et : ks.take (i + 1) = ks.take i ++ [ks[i]] := by rw [List.take_add_one, List.getElem?_eq_getElem hik]; rfl
  have en : (if hasK (ks.take i) ks[i] = true then (ded [] (ks.take i)).length else (ded [] (ks.take i)).length + 1) = (ded [] (ks.take (i + 1))).length := by
    rw [et, ded_grow, ded_mem]
    show _ = (if (false || hasK (ks.take i) ks[i]) = true then _ else _ : List Key).length
    rw [Bool.false_or]
    split
    · rfl
    · rw [List.length_append]; rfl
  have eS : hasK (ks.take (i + 1)) = fun k' => hasK (ks.take i) k' || decide (k' = ks[i]) := funext fun k' => by
    rw [et, hasK_app]
    exact congrArg _ (decide_eq_decide.mpr eq_comm)
  rw [eS, ← en]
  exact R2
theorem keys_fresh {P : Program} {w : World} {S : Addr} {h : Heap} (e : h.get? S = some (freshSet w)) (ks : List Key) : h.SetOf (mixKind P w) S (hasK (ks.take 0)) (ded [] (ks.take 0)).length :=
  ⟨_, #[], 0, _, e, ⟨rfl, rfl, rfl⟩, rfl, (fun e he => by simp at he), (fun k => by simp [hasK]), (by decide), (by rfl), rfl⟩
/-! ### ints, their order asked later -/
theorem told_ints {P : Program} {w : World} {S : Addr} {items : Array Value} {ns : List Int} (hp : IntsAre items.toList ns) (hb : ns.length + 1 < scanBound) :
    Told P w S items.size (fun i v => items[i]? = some v) (fun i h => ∃ c, c ≤ i ∧ SetR w h S (fun j => decide (j ∈ ns.take i)) c) := by
  have len : items.size = ns.length := by
    have := hp.length
    rw [Array.length_toList] at this
    exact this
  refine ⟨fun i h h' ⟨c, hc, R⟩ k => ⟨c, hc, R.at k⟩, fun A E i v s Q hi hv ⟨c, hc, R⟩ hQ => ?_⟩
  have hik : i < ns.length := by omega
  obtain ⟨t, e⟩ := IntsAre.int_at hp i v (by rw [Array.getElem?_toList]; exact hv)
  have e : v = .int ns[i] t := by rw [e, List.getD_eq_getElem?_getD, List.getElem?_eq_getElem hik]; rfl
  subst e
  unfold setAdd
  refine wpAny_holding ?_
  refine wpAny_bind ((intKind P w).pyHash (k := ns[i]) (intKind_is _ _ _ _) ?_)
  refine setR_add_hashed (s := { s with toks := s.toks + 1 }) R (by omega) fun h' hsb R2 => ?_
  refine hQ _ h' (s.toks + 1) (Nat.le_succ _) hsb ⟨_, ?_, R2.congr fun j => ?_⟩
  · split <;> omega
  · have et : ns.take (i + 1) = ns.take i ++ [ns[i]] := by rw [List.take_add_one, List.getElem?_eq_getElem hik]; rfl
    rw [et, Bool.eq_iff_iff]
    simp only [decide_eq_true_eq, Bool.or_eq_true, List.mem_append, List.mem_singleton]
end Vf
end L2
end
section
/-! VI2: more of the built-in functions. -/
namespace L2
namespace Vf
open PySem PySem.Spec PyProof.Rows
/-! ### ints -/
def intsM : List MV → Option (List Int)
  | [] => some []
  | .int i :: r => match intsM r with
    | some l => some (i :: l)
    | none => none
  | _ :: _ => none
theorem intsM_rel {T : Tx} {ρ : List Addr} {H : Hp} : ∀ {xs : List MV} {vs : List V} {ns : List Int}, RVs T ρ H xs vs → intsM xs = some ns → vs = ns.map V.int
  | [], vs, ns, r, h => by unfold RVs at r; subst r; cases h; rfl
  | x :: xs, vs, ns, r, h => by
    unfold RVs at r
    obtain ⟨v, r', rfl, h1, h2⟩ := r
    unfold intsM at h
    split at h
    · rename_i e; cases e
    · rename_i i rr e
      cases e
      split at h
      · rename_i l el
        cases h
        rw [intsM_rel h2 el]
        unfold RV at h1; subst h1; rfl
      · cases h
    · cases h
theorem intsM_map (ns : List Int) : intsM (ns.map .int) = some ns := by
  induction ns with
  | nil => rfl
  | cons n ns ih => rw [List.map_cons, intsM, ih]
def insI (x : Int) : List Int → List Int
  | [] => [x]
  | y :: r => if x ≤ y then x :: y :: r else y :: insI x r
def isort (l : List Int) : List Int := l.foldr insI []
theorem insI_perm (x : Int) : ∀ l : List Int, (insI x l).Perm (x :: l)
  | [] => .refl _
  | y :: r => by
    unfold insI
    split
    · exact .refl _
    · exact ((insI_perm x r).cons y).trans (.swap x y r)
theorem isort_perm : ∀ l : List Int, (isort l).Perm l
  | [] => .refl _
  | x :: r => (insI_perm x (isort r)).trans ((isort_perm r).cons x)
theorem insI_srt (x : Int) : ∀ {l : List Int}, l.Pairwise (· ≤ ·) → (insI x l).Pairwise (· ≤ ·)
  | [], _ => List.pairwise_singleton ..
  | y :: r, h => by
    unfold insI
    obtain ⟨h1, h2⟩ := List.pairwise_cons.mp h
    split
    · rename_i hx
      refine List.pairwise_cons.mpr ⟨fun z hz => ?_, h⟩
      rcases List.mem_cons.mp hz with rfl | hz
      · exact hx
      · exact Int.le_trans hx (h1 z hz)
    · rename_i hx
      refine List.pairwise_cons.mpr ⟨fun z hz => ?_, insI_srt x h2⟩
      rcases List.mem_cons.mp ((insI_perm x r).mem_iff.mp hz) with rfl | hz
      · omega
      · exact h1 z hz
theorem isort_srt : ∀ l : List Int, (isort l).Pairwise (· ≤ ·)
  | [] => List.Pairwise.nil
  | x :: r => insI_srt x (isort_srt r)
theorem srt_uniq : ∀ {a b : List Int}, a.Perm b → a.Pairwise (· ≤ ·) → b.Pairwise (· ≤ ·) → a = b
  | [], b, p, _, _ => by rw [List.nil_perm.mp p]
  | x :: a, [], p, _, _ => absurd p.symm (by simp)
  | x :: a, y :: b, p, h1, h2 => by
    obtain ⟨a1, a2⟩ := List.pairwise_cons.mp h1
    obtain ⟨b1, b2⟩ := List.pairwise_cons.mp h2
    have e : x = y := by
      rcases List.mem_cons.mp (p.mem_iff.mp (List.mem_cons_self (a := x))) with e | m
      · exact e
      · rcases List.mem_cons.mp (p.mem_iff.mpr (List.mem_cons_self (a := y))) with e | m2
        · exact e.symm
        · have := a1 y m2
          have := b1 x m
          omega
    subst e
    rw [srt_uniq (List.Perm.cons_inv p) a2 b2]
/-- the distinct ones, ascending -/
def insU (x : Int) : List Int → List Int
  | [] => [x]
  | y :: r => if x < y then x :: y :: r else if x = y then y :: r else y :: insU x r
def ssort (l : List Int) : List Int := l.foldr insU []
theorem insU_mem (x z : Int) : ∀ l : List Int, z ∈ insU x l ↔ z = x ∨ z ∈ l
  | [] => by simp [insU]
  | y :: r => by
    unfold insU
    split
    · simp
    · split
      · rename_i e; subst e; simp
      · rw [List.mem_cons, insU_mem x z r, List.mem_cons]
        constructor
        · rintro (h | h | h)
          · exact .inr (.inl h)
          · exact .inl h
          · exact .inr (.inr h)
        · rintro (h | h | h)
          · exact .inr (.inl h)
          · exact .inl h
          · exact .inr (.inr h)
theorem ssort_mem (z : Int) : ∀ l : List Int, z ∈ ssort l ↔ z ∈ l
  | [] => by simp [ssort]
  | x :: r => by
    show z ∈ insU x (ssort r) ↔ _
    rw [insU_mem, ssort_mem z r, List.mem_cons]
theorem insU_srt (x : Int) : ∀ {l : List Int}, l.Pairwise (· < ·) → (insU x l).Pairwise (· < ·)
  | [], _ => List.pairwise_singleton ..
  | y :: r, h => by
    unfold insU
    obtain ⟨h1, h2⟩ := List.pairwise_cons.mp h
    split
    · rename_i hx
      refine List.pairwise_cons.mpr ⟨fun z hz => ?_, h⟩
      rcases List.mem_cons.mp hz with rfl | hz
      · exact hx
      · exact Int.lt_trans hx (h1 z hz)
    · split
      · exact h
      · refine List.pairwise_cons.mpr ⟨fun z hz => ?_, insU_srt x h2⟩
        rcases (insU_mem x z r).mp hz with rfl | hz
        · omega
        · exact h1 z hz
theorem ssort_srt : ∀ l : List Int, (ssort l).Pairwise (· < ·)
  | [] => List.Pairwise.nil
  | x :: r => insU_srt x (ssort_srt r)
theorem strict_uniq : ∀ {a b : List Int}, (∀ z, z ∈ a ↔ z ∈ b) → a.Pairwise (· < ·) → b.Pairwise (· < ·) → a = b
  | [], [], _, _, _ => rfl
  | [], y :: b, h, _, _ => absurd ((h y).mpr List.mem_cons_self) (by simp)
  | x :: a, [], h, _, _ => absurd ((h x).mp List.mem_cons_self) (by simp)
  | x :: a, y :: b, h, h1, h2 => by
    obtain ⟨a1, a2⟩ := List.pairwise_cons.mp h1
    obtain ⟨b1, b2⟩ := List.pairwise_cons.mp h2
    have e : x = y := by
      rcases List.mem_cons.mp ((h x).mp List.mem_cons_self) with e | m
      · exact e
      · rcases List.mem_cons.mp ((h y).mpr List.mem_cons_self) with e | m2
        · exact e.symm
        · have := a1 y m2
          have := b1 x m
          omega
    subst e
    rw [strict_uniq (fun z => ?_) a2 b2]
    have := h z
    rw [List.mem_cons, List.mem_cons] at this
    constructor
    · intro hz
      rcases this.mp (.inr hz) with e | m
      · subst e; exact absurd (a1 _ hz) (by omega)
      · exact m
    · intro hz
      rcases this.mpr (.inr hz) with e | m
      · subst e; exact absurd (b1 _ hz) (by omega)
      · exact m
/-! ### keys -/
def keysM : List MV → Bool
  | [] => true
  | x :: r => isKeyM x && keysM r
def hasM (l : List MV) (m : MV) : Bool := l.any fun x => keqM x m
def dedM : List MV → List MV → List MV
  | sn, [] => sn
  | sn, k :: r => if hasM sn k then dedM sn r else dedM (sn ++ [k]) r
theorem keysM_rel {T : Tx} {ρ : List Addr} {H : Hp} : ∀ {xs : List MV} {vs : List V}, RVs T ρ H xs vs → keysM xs = true → ∃ ks : List Key, xs = ks.map keyM ∧ vs = ks.map kV
  | [], vs, r, _ => by unfold RVs at r; subst r; exact ⟨[], rfl, rfl⟩
  | x :: xs, vs, r, h => by
    unfold RVs at r
    obtain ⟨v, r', rfl, h1, h2⟩ := r
    have h := Bool.and_eq_true_iff.mp h
    obtain ⟨ks, e1, e2⟩ := keysM_rel h2 h.2
    obtain ⟨k, e3, e4⟩ := key_of_is h.1 h1
    exact ⟨k :: ks, by rw [e1, e3]; rfl, by rw [e2, e4]; rfl⟩
theorem hasM_keys (a : List Key) (k : Key) : hasM (a.map keyM) (keyM k) = hasK a k := by
  unfold hasM hasK
  rw [List.any_map]
  congr 1
  funext x
  exact keq_keyM x k
theorem dedM_keys : ∀ (r sn : List Key), dedM (sn.map keyM) (r.map keyM) = (ded sn r).map keyM
  | [], sn => rfl
  | k :: r, sn => by
    rw [List.map_cons, dedM, hasM_keys, ded]
    split
    · exact dedM_keys r sn
    · have := dedM_keys r (sn ++ [k])
      rw [List.map_append] at this
      exact this
section
variable {T : Tx} {X : Cx} {W : WX} {rt : Rt} {pos p p2 q : Pos} {a : Expr}
/-! ### len(set(xs)) -/
def lenSetM : P1 := fun v mh => match v with
  | .loc n => match mh[n]? with
    | some (.lst xs) => if keysM xs && Nat.blt (xs.length + 1) 4096 then some (.int (dedM [] xs).length, mh) else none
    | _ => none
  | _ => none
def srtSetM : P1 := fun v mh => match v with
  | .loc n => match mh[n]? with
    | some (.lst xs) => match intsM xs with
      | some ns => if Nat.blt ns.length 64 then some (.loc mh.length, mh ++ [.lst ((ssort ns).map .int)]) else none
      | none => none
    | _ => none
  | _ => none
theorem vals_keys {ks : List Key} {its : List Value} (r : Vals (ks.map kV) its) : Vals (ks.map kV) its.toArray.toList := by simpa using r
theorem pe_lenSetK {ta : TE} (hc : X.calm = true) (hg : Gl X "len") (hm : X.mg "len" = none) (hg2 : Gl X "set") (hm2 : X.mg "set" = none) (ha : PE X a ta) (na : starEach [a] X.env = (false, eval a X.env) :: starEach [] X.env) :
    PE X (.Call (.Name "len" p) [.Call (.Name "set" p2) [a] [] q] [] pos) (fun σ H Q => ta σ H fun x H1 => ∃ (l : Addr) (ks : List Key), x = V.ref l ∧ SqL X.K H1 l (ks.map kV) ∧ ks.length + 1 < 4096 ∧ Q (.int ((ded [] ks).length : Nat)) H1) := by
  refine ⟨fun pins s σ H Q I h => ?_⟩
  refine Call_ (ld_blt I hg hm boot_len (PyProof.Rows.callWith_builtin1 (PyProof.Rows.args_cons ?_ rfl) rfl rfl))
  refine Call_ (ld_blt I hg2 hm2 boot_set (PyProof.Rows.callWith_type1 (PyProof.Rows.args_cons (thn (ha.run pins s σ H _ I h) fun v s1 ⟨x, H1, I1, r1, z1⟩ => PyProof.Rows.args_nil ?_) na) na rfl))
  obtain ⟨l, ks, rfl, hq, hb, z1⟩ := z1
  cases r1
  obtain ⟨its, r, pl, hz⟩ := I1.list hq
  have e1 : ks.length = its.toArray.size := by
    have := r.length
    rw [List.length_map] at this
    rw [this, List.size_toArray]
  refine set_of_list (In := fun i h => h.SetOf (mixKind X.prog X.w) s1.heap.objs.size (hasK (ks.take i)) (ded [] (ks.take i)).length) (I1.ok.hd hc) pl.isList (told_keys (vals_keys r) (by unfold scanBound; omega)) (fun h' e => keys_fresh e ks) fun h' tk hS hk => ?_
  refine PyProof.Rows.args_nil ?_
  rw [← e1, List.take_length] at hS
  obtain ⟨o, es, ep, t, ho, hex, hd, _, _, _, hf, hn⟩ := hS
  have I2 : Inv X pins σ H1 { s1 with heap := h', toks := tk } := I1.kept hk
  have le := ded_le ks []
  refine call_len_set ho hex hd hf (by rw [hn]; simp at le; omega) ⟨.int ((ded [] ks).length : Nat), H1, I2.tok _, ⟨_, by rw [hn]⟩, z1⟩
theorem pe_srtSet {ta : TE} (hc : X.calm = true) (hg : Gl X "sorted") (hm : X.mg "sorted" = none) (hg2 : Gl X "set") (hm2 : X.mg "set" = none) (ha : PE X a ta) (na : starEach [a] X.env = (false, eval a X.env) :: starEach [] X.env) :
    PE X (.Call (.Name "sorted" p) [.Call (.Name "set" p2) [a] [] q] [] pos) (fun σ H Q => ta σ H fun x H1 => ∃ (l : Addr) (ns : List Int), x = V.ref l ∧ SqL X.K H1 l (ns.map V.int) ∧ ns.length < 64 ∧ ∀ p0, H1 p0 = none → Q (.ref p0) (upd H1 p0 (.lst ((ssort ns).map V.int)))) := by
  refine ⟨fun pins s σ H Q I h => ?_⟩
  refine Call_ (ld_blt I hg hm boot_sorted (PyProof.Rows.callWith_builtin1 (PyProof.Rows.args_cons ?_ rfl) rfl rfl))
  refine Call_ (ld_blt I hg2 hm2 boot_set (PyProof.Rows.callWith_type1 (PyProof.Rows.args_cons (thn (ha.run pins s σ H _ I h) fun v s1 ⟨x, H1, I1, r1, z1⟩ => PyProof.Rows.args_nil ?_) na) na rfl))
  obtain ⟨l, ns, rfl, hq, hb, z1⟩ := z1
  cases r1
  obtain ⟨its, r, pl, hz⟩ := I1.list hq
  have hi := r.ints
  have e1 : its.toArray.size = ns.length := by rw [List.size_toArray]; exact hi.length
  refine set_of_list (In := fun i h => ∃ c, c ≤ i ∧ SetR X.w h s1.heap.objs.size (fun j => decide (j ∈ ns.take i)) c) (I1.ok.hd hc) pl.isList (told_ints (by simpa using hi) (by unfold scanBound; omega)) (fun h' e => ⟨0, Nat.le_refl 0, setR_new_at e⟩) fun h' tk hS hk => ?_
  obtain ⟨c, hcl, R⟩ := hS
  refine PyProof.Rows.args_nil ?_
  have I2 : Inv X pins σ H1 { s1 with heap := h', toks := tk } := I1.kept hk
  refine sorted_set R (I2.ok.hd hc) (by omega) fun s' p0 out c2 ms k g o hp hg' hi' hs hmm hl => ?_
  have em : ms = ssort ns := strict_uniq (fun z => by
    rw [hmm z, ssort_mem]
    rw [e1, List.take_length]
    exact decide_eq_true_iff) hs (ssort_srt ns)
  have hlen : (ms.map V.int).length ≤ sizeLine := by rw [List.length_map, hl, sizeLine_eq]; omega
  have hn : H1 p0 = none := I2.hok.fresh hp
  have J : Inv X pins σ (upd H1 p0 (.lst (ms.map V.int))) { ({ s1 with heap := h', toks := tk } : Shared) with heap := s'.heap, gens := s'.gens, drawn := s'.drawn, toks := s'.toks } :=
    I2.call (ch := []) (Un.laid k hp hn) (I2.hok.laid k hp ⟨hlen, out.toList, c2, vals_of_ints hi', hg'⟩) (by rw [g]; exact I2.bare) (fun _ z => nomatch z)
  have e : s' = { ({ s1 with heap := h', toks := tk } : Shared) with heap := s'.heap, gens := s'.gens, drawn := s'.drawn, toks := s'.toks } := by
    obtain ⟨_, _, _, _, _⟩ := s'
    cases o
    rfl
  rw [e]
  refine ⟨.ref p0, _, J, rfl, ?_⟩
  rw [em]
  exact z1 p0 hn
end
end Vf
end L2
end
section
/-! VI3: dict(x), sorted(x), str(x), sums; more methods. -/
namespace L2
namespace Vf
open PySem PySem.Spec PyProof.Rows
/-! ### dict(pairs) -/
def pairsM : List MV → Option (List (MV × MV))
  | [] => some []
  | .tup [k, v] :: r => if isKeyM k then (match pairsM r with
    | some l => some ((k, v) :: l)
    | none => none) else none
  | _ :: _ => none
section
variable {T : Tx} {X : Cx} {W : WX} {rt : Rt} {pins : List (Addr × Obj)} {σ : L2.St} {H : Hp} {s : Shared} {ρ : List Addr} {mh : MH}
theorem pairs_split (I : Inv X pins σ H s) (hK : X.K = T.K) : ∀ {xs : List MV} {vs : List V} {its : List Value} {kvs : List (MV × MV)}, RVs T ρ H xs vs → Vals vs its → pairsM xs = some kvs →
    ∃ (l : List (Key × V)) (rs : List (Key × Value)) (ps : List (Value × Value)) (Ts : Nat → Addr), RKs T ρ H kvs l ∧ KV l rs ∧ ps.length = rs.length ∧ its.length = ps.length ∧
      (∀ j k v, ps[j]? = some (k, v) → its[j]? = some (.ref (Ts j)) ∧ PairAt s.heap (Ts j) k v ∧ ∃ q, rs[j]? = some (q, v) ∧ (mixKind X.prog X.w).is q k = true)
  | [], vs, its, kvs, r, rv, h => by
    unfold RVs at r; subst r
    cases rv
    cases h
    exact ⟨[], [], [], fun _ => 0, rfl, .nil, rfl, rfl, fun j k v e => by simp at e⟩
  | x :: xs, vs, its, kvs, r, rv, h => by
    unfold RVs at r
    obtain ⟨v, r', rfl, h1, h2⟩ := r
    unfold pairsM at h
    split at h
    · rename_i e; cases e
    · rename_i k m rr e
      cases e
      split at h
      · rename_i hk
        split at h
        · rename_i kl el
          cases h
          cases rv with
          | cons ru rvt =>
            obtain ⟨l, rs, ps, Ts, a1, a2, a3, a4, a5⟩ := pairs_split I hK h2 rvt el
            unfold RV at h1
            obtain ⟨a, ws, rfl, tp, rw'⟩ := h1
            obtain ⟨v1, v2, rfl, q1, q2⟩ := rw'.two
            obtain ⟨kk, rfl, rfl⟩ := key_of_is hk q1
            cases ru
            obtain ⟨its2, rv2, ht, _⟩ := I.tuple (show SqT X.K H a [kV kk, v2] by rw [hK]; exact tp.sq)
            obtain ⟨u1, u2, rfl, w1, w2⟩ := vals2 rv2
            refine ⟨(kk, v2) :: l, (kk, u2) :: rs, (u1, u2) :: ps, fun j => if j = 0 then a else Ts (j - 1), ⟨kk, v2, l, rfl, rfl, q2, a1⟩, .cons ⟨rfl, w2⟩ a2, by simp [a3], by simp [a4], fun j k v e => ?_⟩
            cases j with
            | zero =>
              cases e
              exact ⟨rfl, .inl ht, kk, rfl, kV_is w1⟩
            | succ j =>
              obtain ⟨b1, b2, b3⟩ := a5 j k v (by simpa using e)
              simp only [Nat.add_one_ne_zero, if_false, Nat.add_sub_cancel]
              exact ⟨by simpa using b1, b2, by simpa using b3⟩
        · cases h
      · cases h
    · cases h
def dictN : PN := fun as mh => match as with
  | [v] => match kvOf v mh with
    | some kvs => some (.loc mh.length, mh ++ [.dct kvs])
    | none => match v with
      | .str _ => none
      | v => match srcL v mh with
        | some xs => match pairsM xs with
          | some kvs => some (.loc mh.length, mh ++ [.dct (dmerge [] kvs)])
          | none => none
        | none => none
  | _ => none
theorem Aft.dct {ρ : List Addr} {H : Hp} {Q : VK} {mh : MH} {kvs : List (MV × MV)} {l : List (Key × V)} {p : Addr} (k : Aft T ρ H (.loc mh.length) (mh ++ [.dct kvs]) Q) (rh : RH T ρ mh H) (r : RKs T ρ H kvs l) (hp : H p = none) : Q (.ref p) (upd H p (.dK l)) := by
  obtain ⟨e, rh', g⟩ := rh.push (ho := .dK l) (o := .dct kvs) hp ⟨l, rfl, r⟩
  refine k _ _ _ e rh' ?_
  unfold RV
  exact ⟨p, rfl, g⟩
/-- a source that is a sequence object: its object -/
theorem seq_obj (I : Inv X pins σ H s) (hK : X.K = T.K) {v : MV} {x : V} {xs : List MV} (rh : RH T ρ mh H) (r : RV T ρ H v x) (h : srcL v mh = some xs) (ns : ∀ cs, v ≠ .str cs) :
    ∃ a vs its, x = .ref a ∧ RVs T ρ H xs vs ∧ Vals vs its ∧ vs.length ≤ sizeLine ∧ (PlainSeq "list" s.heap a its.toArray ∨ PlainSeq "tuple" s.heap a its.toArray) := by
  have lst : ∀ {a : Addr} {vs : List V}, SqL X.K H a vs → ∃ its, Vals vs its ∧ vs.length ≤ sizeLine ∧ PlainSeq "list" s.heap a its.toArray := fun hq => by
    obtain ⟨its, rv, ⟨o, n, e, c, d, q⟩, hz⟩ := I.list hq
    exact ⟨its, rv, hz, o, n, e, c, d, q⟩
  cases v with
  | loc n =>
    obtain ⟨a, vs, rfl, g, h1, r2⟩ := loc_lst rh r (srcL_loc h)
    obtain ⟨its, rv, hz, pl⟩ := lst (SqL.of h1)
    exact ⟨a, vs, its, rfl, r2, rv, hz, .inl pl⟩
  | fl ys =>
    cases h
    unfold RV at r
    obtain ⟨a, vs, rfl, t, r2⟩ := r
    obtain ⟨its, rv, hz, pl⟩ := lst (by rw [hK]; exact t.sq)
    exact ⟨a, vs, its, rfl, r2, rv, hz, .inl pl⟩
  | tup ys =>
    cases h
    unfold RV at r
    obtain ⟨a, vs, rfl, t, r2⟩ := r
    rcases t with ⟨⟨o, e, d⟩, _⟩ | ⟨o, its, n, e, c, q, hz, rv, d⟩
    · obtain ⟨e1, z, its, rv, ht⟩ := I.hok a _ e
      obtain ⟨o2, e2, c2, n2, d2⟩ := ht
      rw [e1] at e2
      cases e2
      exact ⟨a, vs, its, rfl, r2, rv, z, .inr ⟨o, n2, e1, c2, d.1, d2⟩⟩
    · have e1 := I.kIn a o (by rw [hK]; exact e)
      refine ⟨a, vs, its.toList, rfl, r2, rv, ?_, .inr ⟨o, n, e1, c, d.1, ?_⟩⟩
      · rw [rv.length, Array.length_toList]; exact hz
      · rw [q, Array.toArray_toList]
  | str cs => exact absurd rfl (ns cs)
  | _ => cases h
theorem dict_ok (hw : WdOk T X) (hK : X.K = T.K) (hc : X.calm = true) : CallR X (.type "dict") (RNof T dictN) := by
  intro pins s σ H xs us Q I rs ⟨ρ, as, mh, m, mh', rh, ra, hp, k⟩
  unfold dictN at hp
  split at hp
  · rename_i v
    obtain ⟨x, rfl, r1⟩ := ra.one
    split at hp
    · rename_i kvs ek
      cases hp
      obtain ⟨p, l, rfl, rk, dr⟩ := kv_of hw rh r1 ek
      rw [Vals.ref1 rs]
      exact w_copy I dr fun q s' hn I' => ⟨.ref q, _, I', rfl, k.dct rh rk hn⟩
    · split at hp
      · cases hp
      · rename_i hns
        split at hp
        · rename_i ys es
          split at hp
          · rename_i kvs ek
            cases hp
            obtain ⟨a, vs, its, rfl, r2, rv, hz, pl⟩ := seq_obj I hK rh r1 es hns
            obtain ⟨l, rs2, ps, Ts, a1, a2, a3, a4, a5⟩ := pairs_split I hK r2 rv ek
            rw [Vals.ref1 rs]
            have hlen : ps.length ≤ sizeLine := by rw [← a4, ← rv.length]; exact hz
            have items : PairItems s.heap its.toArray Ts ps := ⟨by rw [List.size_toArray]; exact a4, fun j k v e => ⟨by simpa using (a5 j k v e).1, (a5 j k v e).2.1⟩⟩
            have have_ : PairsHave (mixKind X.prog X.w) ps.length (PairRel ps) rs2 := ⟨a3.symm, fun i key v e => by
              obtain ⟨q, e1, e2⟩ := (a5 i key v e).2.2
              exact ⟨q, e1, e2⟩⟩
            have fin : ∀ (h' : Heap) (tk : Nat), h'.DictOf (mixKind X.prog X.w) s.heap.objs.size (merged [] rs2) → (∀ b o, b ∉ ([] : List Addr) → s.heap.get? b = some o → h'.get? b = some o) → EP X pins σ Q (.ref s.heap.objs.size) { s with heap := h', toks := tk } := fun h' tk hd hk => by
              have hm : (s.heap.objs.size == sysModules) = false := beq_eq_false_iff_ne.mpr (Nat.ne_of_gt I.big)
              have hl2 : (mergeK [] l).length ≤ sizeLine := by
                refine Nat.le_trans (length_mergeK l []) ?_
                rw [List.length_nil, Nat.zero_add, a2.length, ← a3]
                exact hlen
              refine ⟨.ref s.heap.objs.size, upd H s.heap.objs.size (.dK (mergeK [] l)), I.laid (t' := tk) (fun b o e => hk b o (by simp) e) (Nat.le_refl _) (show ObjOk X.prog X.w _ _ _ (.dK (mergeK [] l)) from ⟨hl2, hm, merged [] rs2, KV.merge a2 .nil, hd⟩), rfl, ?_⟩
              exact k.dct rh (RKs.merge (l := []) (kvs := []) rfl a1) (I.hok.fresh (Nat.le_refl _))
            rcases pl with pl | pl
            · exact PySem.call_dict_pairs (knd := mixKind X.prog X.w) (PairArg.list a its.toArray Ts ps) (I.ok.hd hc) ⟨pl, items⟩ have_ hlen fin
            · exact PySem.call_dict_pairs (knd := mixKind X.prog X.w) (PairArg.tuple a its.toArray Ts ps) (I.ok.hd hc) ⟨pl, items⟩ have_ hlen fin
          · cases hp
        · cases hp
  · cases hp
/-! ### sorted(x) -/
def sortedN : PN := fun as mh => match as with
  | [.loc n] => match mh[n]? with
    | some (.lst xs) => match intsM xs with
      | some ns => some (.loc mh.length, mh ++ [.lst ((isort ns).map .int)])
      | none => none
    | some (.dct kvs) => match intsM (kvs.map (·.1)) with
      | some ns => if Nat.blt ns.length 64 then some (.loc mh.length, mh ++ [.lst ((isort ns).map .int)]) else none
      | none => none
    | none => none
  | _ => none
theorem keys_ints : ∀ {kvs : List (MV × MV)} {l : List (Key × V)} {ns : List Int}, RKs T ρ H kvs l → intsM (kvs.map (·.1)) = some ns → l.map (·.1) = ns.map Sum.inl
  | [], l, ns, r, h => by unfold RKs at r; subst r; cases h; rfl
  | (k, v) :: kvs, l, ns, r, h => by
    unfold RKs at r
    obtain ⟨k', u, r', rfl, e, h1, h2⟩ := r
    dsimp only at e
    rw [List.map_cons] at h
    unfold intsM at h
    split at h
    · rename_i e2; cases e2
    · rename_i i rr e2
      cases e2
      split at h
      · rename_i nl en
        cases h
        cases k' with
        | inl j =>
          cases e
          rw [List.map_cons, List.map_cons, keys_ints h2 en]
        | inr z => cases e
      · cases h
    · cases h
theorem sorted_ok (hc : X.calm = true) : CallR X (.builtin "sorted") (RNof T sortedN) := by
  intro pins s σ H xs us Q I rs ⟨ρ, as, mh, m, mh', rh, ra, hp, k⟩
  unfold sortedN at hp
  split at hp
  · split at hp
    · rename_i xs en
      split at hp
      · rename_i ns el
        cases hp
        obtain ⟨x, rfl, r1⟩ := ra.one
        obtain ⟨p, vs, rfl, g, h1, r⟩ := loc_lst rh r1 en
        have e := intsM_rel r el
        subst e
        refine cr_sortedI pins s σ H _ us Q I rs ⟨p, ns, rfl, SqL.of h1, fun ns' q h2 h3 hq => ?_⟩
        rw [srt_uniq (h2.trans (isort_perm ns).symm) h3 (isort_srt ns)]
        exact k.lst rh RVs.ints hq
      · cases hp
    · rename_i kvs en
      split at hp
      · rename_i ns el
        split at hp
        · rename_i hl
          cases hp
          obtain ⟨x, rfl, r1⟩ := ra.one
          unfold RV at r1
          obtain ⟨p, rfl, g⟩ := r1
          obtain ⟨l, e2, rk⟩ := rh.ob _ p _ g en
          refine call_sortedDI hc pins s σ H _ us Q I rs ⟨p, l, ns, rfl, .of e2, keys_ints rk el, Nat.le_of_ble_eq_true hl, fun ys q h2 h3 hq => ?_⟩
          rw [srt_uniq (h2.trans (isort_perm ns).symm) h3 (isort_srt ns)]
          exact k.lst rh RVs.ints hq
        · cases hp
      · cases hp
    · cases hp
  · cases hp
/-! ### str(x), sum, max, min -/
def strN : PN := fun as mh => match as with
  | [.int i] => if Nat.blt i.natAbs.log2 1920 then some (.str (toString i : Str).cps.toList, mh) else none
  | [.str cs] => some (.str cs, mh)
  | _ => none
theorem str_ok : CallR X (.type "str") (RNof T strN) := by
  intro pins s σ H xs us Q I rs ⟨ρ, as, mh, m, mh', rh, ra, hp, k⟩
  unfold strN at hp
  split at hp
  · split at hp
    · rename_i hl
      cases hp
      obtain ⟨x, rfl, r1⟩ := ra.one
      unfold RV at r1; subst r1
      refine call_str_int pins s σ H _ us Q I rs ⟨_, rfl, Nat.le_of_ble_eq_true hl, ?_⟩
      refine k.pure rh ?_
      unfold RV
      rw [S_eta]
    · cases hp
  · cases hp
    obtain ⟨x, rfl, r1⟩ := ra.one
    unfold RV at r1; subst r1
    exact SkE.call_str_str pins s σ H _ us Q I rs ⟨_, rfl, k.pure rh .str⟩
  · cases hp
def sumN : PN := fun as mh => match as with
  | [.loc n] => match mh[n]? with
    | some (.lst xs) => match intsM xs with
      | some ns => some (.int ns.sum, mh)
      | none => none
    | _ => none
  | [.fl xs] => match intsM xs with
    | some ns => some (.int ns.sum, mh)
    | none => none
  | _ => none
theorem sum_ok (hK : X.K = T.K) (hc : X.calm = true) : CallR X (.builtin "sum") (RNof T sumN) := by
  intro pins s σ H xs us Q I rs ⟨ρ, as, mh, m, mh', rh, ra, hp, k⟩
  unfold sumN at hp
  split at hp
  · split at hp
    · rename_i en
      split at hp
      · rename_i ns el
        cases hp
        obtain ⟨x, rfl, r1⟩ := ra.one
        obtain ⟨p, vs, rfl, g, h1, r⟩ := loc_lst rh r1 en
        have e := intsM_rel r el
        subst e
        exact cr_sum hc pins s σ H _ us Q I rs ⟨p, ns, rfl, SqL.of h1, k.pure rh .int⟩
      · cases hp
    · cases hp
  · split at hp
    · rename_i ns el
      cases hp
      obtain ⟨x, rfl, r1⟩ := ra.one
      unfold RV at r1
      obtain ⟨p, vs, rfl, t, r⟩ := r1
      have e := intsM_rel r el
      subst e
      exact cr_sum hc pins s σ H _ us Q I rs ⟨p, ns, rfl, by rw [hK]; exact t.sq, k.pure rh .int⟩
    · cases hp
  · cases hp
def maxL : Int → List Int → Int
  | m, [] => m
  | m, x :: r => maxL (if x > m then x else m) r
def minL : Int → List Int → Int
  | m, [] => m
  | m, x :: r => minL (if x < m then x else m) r
theorem maxL_spec : ∀ (l : List Int) (m : Int), (maxL m l = m ∨ maxL m l ∈ l) ∧ m ≤ maxL m l ∧ ∀ y ∈ l, y ≤ maxL m l
  | [], m => ⟨.inl rfl, Int.le_refl _, fun y hy => by cases hy⟩
  | x :: r, m => by
    unfold maxL
    obtain ⟨h1, h2, h3⟩ := maxL_spec r (if x > m then x else m)
    have hx : x ≤ (if x > m then x else m) := by split <;> omega
    have hm : m ≤ (if x > m then x else m) := by split <;> omega
    refine ⟨?_, by omega, fun y hy => ?_⟩
    · rcases h1 with h1 | h1
      · rw [h1]
        split
        · exact .inr List.mem_cons_self
        · exact .inl rfl
      · exact .inr (List.mem_cons_of_mem _ h1)
    · rcases List.mem_cons.mp hy with rfl | hy
      · omega
      · exact h3 y hy
theorem minL_spec : ∀ (l : List Int) (m : Int), (minL m l = m ∨ minL m l ∈ l) ∧ minL m l ≤ m ∧ ∀ y ∈ l, minL m l ≤ y
  | [], m => ⟨.inl rfl, Int.le_refl _, fun y hy => by cases hy⟩
  | x :: r, m => by
    unfold minL
    obtain ⟨h1, h2, h3⟩ := minL_spec r (if x < m then x else m)
    have hx : (if x < m then x else m) ≤ x := by split <;> omega
    have hm : (if x < m then x else m) ≤ m := by split <;> omega
    refine ⟨?_, by omega, fun y hy => ?_⟩
    · rcases h1 with h1 | h1
      · rw [h1]
        split
        · exact .inr List.mem_cons_self
        · exact .inl rfl
      · exact .inr (List.mem_cons_of_mem _ h1)
    · rcases List.mem_cons.mp hy with rfl | hy
      · omega
      · exact h3 y hy
def max2N : PN := fun as mh => match as with
  | [.loc n] => match mh[n]? with
    | some (.lst xs) => match intsM xs with
      | some (i :: r) => some (.int (maxL i r), mh)
      | _ => none
    | _ => none
  | as => maxN as mh
def min2N : PN := fun as mh => match as with
  | [.loc n] => match mh[n]? with
    | some (.lst xs) => match intsM xs with
      | some (i :: r) => some (.int (minL i r), mh)
      | _ => none
    | _ => none
  | as => minN as mh
theorem max2_ok (hc : X.calm = true) : CallR X (.builtin "max") (RNof T max2N) := by
  intro pins s σ H xs us Q I rs ⟨ρ, as, mh, m, mh', rh, ra, hp, k⟩
  unfold max2N at hp
  split at hp
  · split at hp
    · rename_i en
      split at hp
      · rename_i i r el
        cases hp
        obtain ⟨x, rfl, r1⟩ := ra.one
        obtain ⟨p, vs, rfl, g, h1, rr⟩ := loc_lst rh r1 en
        have e := intsM_rel rr el
        subst e
        obtain ⟨s1, s2, s3⟩ := maxL_spec r i
        refine cr_max hc pins s σ H _ us Q I rs ⟨p, i :: r, rfl, SqL.of h1, by simp, fun m hm hy => ?_⟩
        have e : m = maxL i r := by
          have a1 : maxL i r ≤ m := by
            rcases s1 with e | e
            · rw [e]; exact hy i List.mem_cons_self
            · exact hy _ (List.mem_cons_of_mem _ e)
          have a2 : m ≤ maxL i r := by
            rcases List.mem_cons.mp hm with rfl | hm
            · exact s2
            · exact s3 m hm
          omega
        rw [e]
        exact k.pure rh .int
      · cases hp
    · cases hp
  · exact max_ok hc pins s σ H xs us Q I rs ⟨ρ, as, mh, m, mh', rh, ra, hp, k⟩
theorem min2_ok (hc : X.calm = true) : CallR X (.builtin "min") (RNof T min2N) := by
  intro pins s σ H xs us Q I rs ⟨ρ, as, mh, m, mh', rh, ra, hp, k⟩
  unfold min2N at hp
  split at hp
  · split at hp
    · rename_i en
      split at hp
      · rename_i i r el
        cases hp
        obtain ⟨x, rfl, r1⟩ := ra.one
        obtain ⟨p, vs, rfl, g, h1, rr⟩ := loc_lst rh r1 en
        have e := intsM_rel rr el
        subst e
        obtain ⟨s1, s2, s3⟩ := minL_spec r i
        refine cr_min hc pins s σ H _ us Q I rs ⟨p, i :: r, rfl, SqL.of h1, by simp, fun m hm hy => ?_⟩
        have e : m = minL i r := by
          have a1 : m ≤ minL i r := by
            rcases s1 with e | e
            · rw [e]; exact hy i List.mem_cons_self
            · exact hy _ (List.mem_cons_of_mem _ e)
          have a2 : minL i r ≤ m := by
            rcases List.mem_cons.mp hm with rfl | hm
            · exact s2
            · exact s3 m hm
          omega
        rw [e]
        exact k.pure rh .int
      · cases hp
    · cases hp
  · exact min_ok hc pins s σ H xs us Q I rs ⟨ρ, as, mh, m, mh', rh, ra, hp, k⟩
end
end Vf
end L2
end
section
/-! VI4: methods, by the receiver's type. -/
namespace L2
namespace Vf
open PySem PySem.Spec PyProof.Rows
abbrev Alts := List ((MV → MH → Bool) × PM)
def pickA : Alts → MV → MH → Option PM
  | [], _, _ => none
  | (t, p) :: r, m, mh => if t m mh then some p else pickA r m mh
def methAD (al : Alts) (d : DE) (dl : DL) : DE := bnd d fun a rt env mh => match pickA al a mh with
  | some p => bnd dl (fun as _ _ mh => lft (p a as mh)) rt env mh
  | none => .stuck
def meth0D (al : Alts) (d : DE) : DE := bnd d fun a _ _ mh => match pickA al a mh with
  | some p => lft (p a [] mh)
  | none => .stuck
/-- a method of one type -/
structure AltOk (T : Tx) (X : Cx) (name : Str) (ty : MV → MH → Bool) (pm : PM) : Prop where
  ex : ∃ Ty id, PlainAttrs Ty ∧ Slot Ty name id ∧ typeOf (.builtin id) = pure (.type "method_descriptor") ∧ MtR X id (RMof T pm) ∧
    ∀ (pins : List (Addr × Obj)) (s : Shared) (σ : L2.St) (H : Hp) (ρ : List Addr) (mh : MH) (m : MV) (x : V) (v : Value), Inv X pins σ H s → RH T ρ mh H → RV T ρ H m x → RelV x v → ty m mh = true → s.TypeIs v Ty ∧ ∀ a, v = .ref a → ∃ ob, s.heap.get? a = some ob ∧ ob.dict = none
theorem pickA_ok {T : Tx} {X : Cx} {name : Str} : ∀ {al : Alts} {m : MV} {mh : MH} {p : PM}, (∀ q ∈ al, AltOk T X name q.1 q.2) → pickA al m mh = some p → ∃ t, AltOk T X name t p ∧ t m mh = true
  | [], _, _, _, _, h => by cases h
  | (t, q) :: r, m, mh, p, ok, h => by
    unfold pickA at h
    split at h
    · rename_i ht
      cases h
      exact ⟨t, ok _ List.mem_cons_self, ht⟩
    · exact pickA_ok (fun z hz => ok z (List.mem_cons_of_mem _ hz)) h
section
variable {T : Tx} {X : Cx} {W : WX} {rt : Rt} {pos p : Pos} {e : Expr} {es : List Expr}
theorem se_methA {name : Str} {al : Alts} {o : Expr} {d : DE} {dl : DL} {apos : Pos} (ok : ∀ q ∈ al, AltOk T X name q.1 q.2) (ho : PE X o (TEof T W rt d)) (ha : PA X (e :: es) (TAof T W rt dl)) (hbase : attributeBase o name X.env (eval o X.env) = eval o X.env)
    (hfew : ((backTo pos (starEach (e :: es) X.env)).all (fun x => !x.1) && (backToKw pos (keywordEach [] X.env)).all (fun x => x.1.isSome)
      && decide ((e :: es).length + ([] : List Keyword).length + (if ([] : List Keyword).isEmpty then 0 else 1) < 30)) = true)
    (hline : (apos.endLine == pos.line) = true) (hs : starEach (e :: es) X.env = (false, eval e X.env) :: starEach es X.env) (hplain : (backTo pos (starEach es X.env)).any (·.1) = false) :
    PE X (.Call (.Attribute o name apos) (e :: es) [] pos) (TEof T W rt (methAD al d dl)) := by
  refine ⟨fun pins s σ H Q I ⟨ρ, env, mh, rh, rs, w⟩ => ?_⟩
  refine wpAny_Call_method_late hbase hfew hline rfl (thn (ho.run pins s σ H _ I (Want.bind rh rs w)) fun v s1 ⟨x, H1, I1, r1, ρ1, mh1, a, e1, rh1, rs1, ra, w1⟩ => ?_)
  cases q : pickA al a mh1 with
  | none => rw [q] at w1; exact w1.elim
  | some pm =>
    rw [q] at w1
    obtain ⟨t, ⟨Ty, id, pa, slot, hty, hm, hv⟩, ht⟩ := pickA_ok ok q
    obtain ⟨h1, h2⟩ := hv pins s1 σ H1 ρ1 mh1 a x v I1 rh1 ra r1 ht
    refine ⟨Ty, id, pa, slot, hty, h1, h2, ?_⟩
    have hA := ha.run pos pins s1 σ H1 _ I1 (Want.bind (rel := RVs T) rh1 rs1 w1)
    rw [hs] at hA ⊢
    refine Calls.callWith_builtin (by show (false || (backTo pos (starEach es X.env)).any (·.1)) = false; rw [hplain] <;> rfl) (Calls.evalArgs_plain ?_)
    refine thn hA fun us s2 ⟨vs, H2, I2, r2, ρ2, mh2, as, e2, rh2, rs2, rb, w2⟩ => ?_
    obtain ⟨m, mh3, hp, k⟩ := lft_want w2
    exact hm pins s2 σ H2 x vs v us Q I2 r1 r2 ⟨ρ2, a, as, mh2, m, mh3, rh2, ra.mono e2, rb, hp, k⟩
theorem se_meth0 {name : Str} {al : Alts} {o : Expr} {d : DE} {apos : Pos} (ok : ∀ q ∈ al, AltOk T X name q.1 q.2) (ho : PE X o (TEof T W rt d)) (hbase : attributeBase o name X.env (eval o X.env) = eval o X.env) (hline : (apos.endLine == pos.line) = true) :
    PE X (.Call (.Attribute o name apos) [] [] pos) (TEof T W rt (meth0D al d)) := by
  refine ⟨fun pins s σ H Q I ⟨ρ, env, mh, rh, rs, w⟩ => ?_⟩
  refine wpAny_Call_method0_late hbase hline (thn (ho.run pins s σ H _ I (Want.bind rh rs w)) fun v s1 ⟨x, H1, I1, r1, ρ1, mh1, a, e1, rh1, rs1, ra, w1⟩ => ?_)
  cases q : pickA al a mh1 with
  | none => rw [q] at w1; exact w1.elim
  | some pm =>
    rw [q] at w1
    obtain ⟨t, ⟨Ty, id, pa, slot, hty, hm, hv⟩, ht⟩ := pickA_ok ok q
    obtain ⟨h1, h2⟩ := hv pins s1 σ H1 ρ1 mh1 a x v I1 rh1 ra r1 ht
    obtain ⟨m, mh3, hp, k⟩ := lft_want w1
    exact ⟨Ty, id, pa, slot, hty, h1, h2, Calls.callWith_builtin rfl (PySem.evalArgs_none (hm pins s1 σ H1 x [] v [] Q I1 r1 .nil ⟨ρ1, a, [], mh1, m, mh3, rh1, ra, .nil, hp, k⟩))⟩
/-! ### types -/
theorem ty_str {pins : List (Addr × Obj)} {s : Shared} {σ : L2.St} {H : Hp} {ρ : List Addr} {mh : MH} {m : MV} {x : V} {v : Value} (I : Inv X pins σ H s) (rh : RH T ρ mh H) (r : RV T ρ H m x) (rv : RelV x v) (h : isStrM m mh = true) : s.TypeIs v "str" ∧ ∀ a, v = .ref a → ∃ ob, s.heap.get? a = some ob ∧ ob.dict = none :=
  tyV_is I rv (str_ty X.K r h)
theorem ty_lst (hK : X.K = T.K) {pins : List (Addr × Obj)} {s : Shared} {σ : L2.St} {H : Hp} {ρ : List Addr} {mh : MH} {m : MV} {x : V} {v : Value} (I : Inv X pins σ H s) (rh : RH T ρ mh H) (r : RV T ρ H m x) (rv : RelV x v) (h : isLstM m mh = true) : s.TypeIs v "list" ∧ ∀ a, v = .ref a → ∃ ob, s.heap.get? a = some ob ∧ ob.dict = none :=
  tyV_is I rv (by rw [hK]; exact lst_ty rh r h)
def isDctM (m : MV) (mh : MH) : Bool := (kvOf m mh).isSome
theorem ty_dct (hw : WdOk T X) {pins : List (Addr × Obj)} {s : Shared} {σ : L2.St} {H : Hp} {ρ : List Addr} {mh : MH} {m : MV} {x : V} {v : Value} (I : Inv X pins σ H s) (rh : RH T ρ mh H) (r : RV T ρ H m x) (rv : RelV x v) (h : isDctM m mh = true) : s.TypeIs v "dict" ∧ ∀ a, v = .ref a → ∃ ob, s.heap.get? a = some ob ∧ ob.dict = none := by
  obtain ⟨kvs, ek⟩ := Option.isSome_iff_exists.mp h
  obtain ⟨p, l, rfl, rk, dr⟩ := kv_of hw rh r ek
  obtain rfl : v = Value.ref p := rv
  obtain ⟨_, _, vs, _, dd⟩ := dk_any I dr
  refine ⟨dd.typeIs, fun a q => ?_⟩
  cases q
  obtain ⟨ob, _, _, h1, h2, _⟩ := dd
  exact ⟨ob, h1, h2.2.1⟩
def isTupM : MV → MH → Bool
  | .tup _, _ => true
  | _, _ => false
theorem ty_tup (hK : X.K = T.K) {pins : List (Addr × Obj)} {s : Shared} {σ : L2.St} {H : Hp} {ρ : List Addr} {mh : MH} {m : MV} {x : V} {v : Value} (I : Inv X pins σ H s) (rh : RH T ρ mh H) (r : RV T ρ H m x) (rv : RelV x v) (h : isTupM m mh = true) : s.TypeIs v "tuple" ∧ ∀ a, v = .ref a → ∃ ob, s.heap.get? a = some ob ∧ ob.dict = none := by
  cases m with
  | tup ys =>
    obtain ⟨a, vs, its, rfl, r2, rv2, hz, pl⟩ := seq_obj I hK rh r (show srcL (.tup ys) mh = some ys from rfl) (fun cs e => by cases e)
    obtain rfl : v = Value.ref a := rv
    unfold RV at r
    obtain ⟨a', vs', e, t, _⟩ := r
    cases e
    rcases t with ⟨⟨o, e, d⟩, _⟩ | ⟨o, its', n, e, c, q, hz', rv', d⟩
    · obtain ⟨e1, z, its', rv', o2, e2, c2, _⟩ := I.hok a _ e
      rw [e1] at e2; cases e2
      exact ⟨⟨o, e1, c2⟩, fun b q => by cases q; exact ⟨o, e1, d.1⟩⟩
    · have e1 := I.kIn a o (by rw [hK]; exact e)
      exact ⟨⟨o, e1, c⟩, fun b q => by cases q; exact ⟨o, e1, d.1⟩⟩
  | _ => cases h
/-! ### lists -/
def extendM : PM := fun a as mh => match a, as with
  | .loc n, [.loc m] => match mh[n]?, mh[m]? with
    | some (.lst xs), some (.lst ys) => if Nat.ble (xs.length + ys.length) lim then some (.non, mh.set n (.lst (xs ++ ys))) else none
    | _, _ => none
  | .loc n, [.tup ys] => match mh[n]? with
    | some (.lst xs) => if Nat.ble (xs.length + ys.length) lim then some (.non, mh.set n (.lst (xs ++ ys))) else none
    | _ => none
  | _, _ => none
theorem lst_put {ρ : List Addr} {H : Hp} {mh : MH} {n : Nat} {a : Addr} {xs : List MV} {vs : List V} {Q : VK} (rh : RH T ρ mh H) (g : ρ[n]? = some a) (r : RVs T ρ H xs vs) {m : MV} {v : V} (rm : RV T ρ H m v) (k : Aft T ρ H m (mh.set n (.lst xs)) Q) : Q v (upd H a (.lst vs)) := by
  obtain ⟨e, rh'⟩ := rh.put (ho := .lst vs) (o := .lst xs) g ⟨vs, rfl, r⟩
  exact k _ ρ _ e rh' (rm.mono e)
theorem extend_ok (hK : X.K = T.K) : MtR X "list.extend" (RMof T extendM) := by
  intro pins s σ H x xs v us Q I rx rs ⟨ρ, a, as, mh, m, mh', rh, ra, rb, hp, k⟩
  unfold extendM at hp
  split at hp
  · split at hp
    · rename_i en em
      split at hp
      · rename_i hz
        cases hp
        obtain ⟨p, vs, rfl, g, h1, r⟩ := loc_lst rh ra en
        obtain ⟨u, rfl, ru⟩ := rb.one
        obtain ⟨q, ws, rfl, g2, h2, r2⟩ := loc_lst rh ru em
        refine mt_extend pins s σ H _ _ v us Q I rx rs ⟨p, q, vs, ws, rfl, rfl, h1, h2, ?_, lst_put rh g (r.append r2) .non k⟩
        rw [r.len, r2.len, ← lim_eq]; exact Nat.le_of_ble_eq_true hz
      · cases hp
    · cases hp
  · rename_i n ys
    split at hp
    · rename_i xs0 en
      split at hp
      · rename_i hz
        cases hp
        obtain ⟨p, vs, rfl, g, h1, r⟩ := loc_lst rh ra en
        obtain ⟨u, rfl, ru⟩ := rb.one
        have ru0 := ru
        unfold RV at ru
        obtain ⟨q, ws, rfl, t, r2⟩ := ru
        have hz' : vs.length + ws.length ≤ sizeLine := by rw [r.len, r2.len, ← lim_eq]; exact Nat.le_of_ble_eq_true hz
        obtain rfl : v = Value.ref p := rx
        rw [Vals.ref1 rs]
        have ob : ∃ its2 n2, Vals ws its2 ∧ s.heap.get? q = some { cls := .type "tuple", dict := none, data := .seq its2.toArray n2, slots := #[] } := by
          rcases t with ⟨⟨o, e, d⟩, _⟩ | ⟨o, its', n, e, c, qd, hz', rv', d⟩
          · obtain ⟨e1, z, its2, rv2, o2, e2, c2, n2, d2⟩ := I.hok q _ e
            rw [e1] at e2; cases e2
            obtain ⟨oc, od, odt, os⟩ := o
            obtain ⟨d1, d3⟩ := d
            simp only at c2 d2 d1 d3
            subst c2 d2 d1 d3
            exact ⟨its2, n2, rv2, e1⟩
          · have e1 := I.kIn q o (by rw [hK]; exact e)
            obtain ⟨oc, od, odt, os⟩ := o
            obtain ⟨d1, d3⟩ := d
            simp only at c qd d1 d3
            subst c qd d1 d3
            exact ⟨its'.toList, n, rv', by rw [Array.toArray_toList]; exact e1⟩
        obtain ⟨its2, n2, rv2, e2⟩ := ob
        obtain ⟨z, its, nn, rv1, hl, e1⟩ := I.lstM h1
        have l2 := rv2.length
        have hsz : its.toArray.size + its2.toArray.size ≤ sizeLine := by rw [List.size_toArray, List.size_toArray]; omega
        have hlong : ¬ (!its.toArray.isEmpty && Builtin.List.listTooLong (its.toArray.size + its2.toArray.size)) = true := by
          rw [notLongL hsz, Bool.and_false]
          exact Bool.false_ne_true
        refine call_meets PySem.F.slot_list_extend ⟨_, e1, rfl⟩ PySem.F.entry_list_extend (PySem.F.args_list_extend_2 _ _)
          (AutoSeq1.list_extend_list_tuple_0 p its.toArray nn q its2.toArray n2 hlong (by rw [List.size_toArray]; omega) (by omega)) ⟨e1, e2, ?_⟩
        refine ⟨.non, _, I.lset (its' := its ++ its2) h1 e1 (by simp) (rv1.append rv2) ?_, rfl, lst_put rh g (r.append r2) .non k⟩
        rw [List.length_append]; exact hz'
      · cases hp
    · cases hp
  · cases hp
def popM : PM := fun a as mh => match a, as with
  | .loc n, [] => match mh[n]? with
    | some (.lst xs) => match xs[xs.length - 1]? with
      | some y => some (y, mh.set n (.lst xs.dropLast))
      | none => none
    | _ => none
  | .loc n, [.int (.ofNat i)] => match mh[n]? with
    | some (.lst xs) => if Nat.blt i 9223372036854775808 then (match xs[i]? with
      | some y => some (y, mh.set n (.lst (xs.eraseIdx i)))
      | none => none) else none
    | _ => none
  | _, _ => none
theorem RVs.dropLast {ρ : List Addr} {H : Hp} {xs : List MV} {vs : List V} (r : RVs T ρ H xs vs) : RVs T ρ H xs.dropLast vs.dropLast := by
  rw [List.dropLast_eq_take, List.dropLast_eq_take, r.len]
  exact r.take _
theorem RVs.eraseIdx {ρ : List Addr} {H : Hp} : ∀ {xs : List MV} {vs : List V} (i : Nat), RVs T ρ H xs vs → RVs T ρ H (xs.eraseIdx i) (vs.eraseIdx i)
  | [], vs, i, r => by unfold RVs at r; subst r; exact .nil
  | x :: xs, vs, 0, r => by
    unfold RVs at r
    obtain ⟨v, r', rfl, _, h2⟩ := r
    exact h2
  | x :: xs, vs, i + 1, r => by
    unfold RVs at r
    obtain ⟨v, r', rfl, h1, h2⟩ := r
    exact .cons h1 (RVs.eraseIdx i h2)
theorem pop_ok0 : MtR X "list.pop" (RMof T popM) := by
  intro pins s σ H x xs v us Q I rx rs ⟨ρ, a, as, mh, m, mh', rh, ra, rb, hp, k⟩
  unfold popM at hp
  split at hp
  · split at hp
    · rename_i xs0 en
      split at hp
      · rename_i y ey
        cases hp
        obtain ⟨p, vs, rfl, g, h1, r⟩ := loc_lst rh ra en
        unfold RVs at rb
        subst rb
        obtain ⟨u, eu, ru⟩ := r.get ey
        rw [← r.len] at eu
        exact mt_pop pins s σ H _ _ v us Q I rx rs ⟨p, vs, u, rfl, rfl, h1, eu, lst_put rh g r.dropLast ru k⟩
      · cases hp
    · cases hp
  · rename_i n i
    split at hp
    · rename_i xs0 en
      split at hp
      · rename_i hi
        split at hp
        · rename_i y ey
          cases hp
          obtain ⟨p, vs, rfl, g, h1, r⟩ := loc_lst rh ra en
          obtain ⟨u0, rfl, ru0⟩ := rb.one
          unfold RV at ru0; subst ru0
          obtain ⟨u, eu, ru⟩ := r.get ey
          have hlt := (List.getElem?_eq_some_iff.mp eu).1
          have hi : i + 1 ≤ 9223372036854775808 := Nat.le_of_ble_eq_true hi
          have h0 : (0 : Int) ≤ Int.ofNat i := Int.natCast_nonneg i
          have h9 : (Int.ofNat i : Int) < (vs.length : Int) := by show ((i : Nat) : Int) < _; omega
          have hx : PySem.seqIndex? (Int.ofNat i) vs.length = some i := by rw [PySem.seqIndex_of h0 h9]; rfl
          refine mt_popAt pins s σ H _ _ v us Q I rx rs ⟨p, vs, _, i, u, rfl, rfl, h1, ?_, ?_, hx, eu, lst_put rh g (r.eraseIdx _) ru k⟩
          · omega
          · show ((i : Nat) : Int) < _
            omega
        · cases hp
      · cases hp
    · cases hp
  · cases hp
/-! ### dicts -/
def getDM : PM := fun a as mh => match kvOf a mh, as with
  | some kvs, [y] => if isKeyM y then (match dfind kvs y with
    | some v => some (v, mh)
    | none => some (.non, mh)) else none
  | some kvs, [y, d] => if isKeyM y then (match dfind kvs y with
    | some v => some (v, mh)
    | none => some (d, mh)) else none
  | _, _ => none
theorem getD_ok (hw : WdOk T X) : MtR X "dict.get" (RMof T getDM) := by
  intro pins s σ H x xs v us Q I rx rs ⟨ρ, a, as, mh, m, mh', rh, ra, rb, hp, k⟩
  unfold getDM at hp
  split at hp
  · rename_i kvs y ek
    split at hp
    · rename_i hy
      obtain ⟨p, l, rfl, rk, dr⟩ := kv_of hw rh ra ek
      obtain rfl : v = Value.ref p := rx
      obtain ⟨w, rfl, rw'⟩ := rb.one
      obtain ⟨q, rfl, rfl⟩ := key_of_is hy rw'
      obtain ⟨u, rfl, ru⟩ := vals1 rs
      refine w_get1 I dr ru fun w' s' I' rr => ⟨_, H, I', rr, ?_⟩
      rcases rk.find q with ⟨e1, e2⟩ | ⟨m1, v1, e1, e2, r3⟩
      · rw [e1] at hp; cases hp; rw [e2]; exact k.pure rh .non
      · rw [e1] at hp; cases hp; rw [e2]; exact k.pure rh r3
    · cases hp
  · rename_i kvs y d ek
    split at hp
    · rename_i hy
      obtain ⟨p, l, rfl, rk, dr⟩ := kv_of hw rh ra ek
      obtain rfl : v = Value.ref p := rx
      obtain ⟨w, z, rfl, rw', rz⟩ := rb.two
      obtain ⟨q, rfl, rfl⟩ := key_of_is hy rw'
      obtain ⟨u, u2, rfl, ru, ru2⟩ := vals2 rs
      refine w_get2 I dr ru ru2 fun w' s' I' rr => ⟨_, H, I', rr, ?_⟩
      rcases rk.find q with ⟨e1, e2⟩ | ⟨m1, v1, e1, e2, r3⟩
      · rw [e1] at hp; cases hp; rw [e2]; exact k.pure rh rz
      · rw [e1] at hp; cases hp; rw [e2]; exact k.pure rh r3
    · cases hp
  · cases hp
def upd1M : PM := fun a as mh => match a, as with
  | .loc n, [v] => match mh[n]?, kvOf v mh with
    | some (.dct kvs), some more => if Nat.ble (kvs.length + more.length) lim then some (.non, mh.set n (.dct (dmerge kvs more))) else none
    | _, _ => none
  | _, _ => none
def setDfM : PM := fun a as mh => match a, as with
  | .loc n, [y, d] => match mh[n]? with
    | some (.dct kvs) => if isKeyM y && Nat.blt kvs.length lim then (match dfind kvs y with
      | some v => some (v, mh)
      | none => some (d, mh.set n (.dct (dputM kvs y d)))) else none
    | _ => none
  | _, _ => none
end
end Vf
end L2
end
section
/-! VI5: chained comparisons, dict displays, sets at once; method tables. -/
namespace L2
namespace Vf
open PySem PySem.Spec PyProof.Rows
/-! ### a op b op c -/
def chainD (p p' : P2) (a b c : DE) : DE := bnd a fun x => bnd b fun y rt env mh => match p x y mh with
  | some (.bl true, mh') => bnd c (fun z _ _ mh => lft (p' y z mh)) rt env mh'
  | some (.bl false, mh') => .ok (.bl false) mh'
  | _ => .stuck
section
variable {T : Tx} {X : Cx} {W : WX} {rt : Rt} {pos : Pos} {a b c : Expr} {da db dc : DE}
theorem chain_of {p p' : P2} {σ : St} {H : Hp} {Q : VK} (h : TEof T W rt (chainD p p' da db dc) σ H Q) : tChain (R2of T p) (R2of T p') (TEof T W rt da) (TEof T W rt db) (TEof T W rt dc) σ H Q := by
  obtain ⟨ρ, env, mh, rh, rs, w⟩ := h
  refine (Want.bind (rel := RV T) rh rs w).mono fun x H1 ⟨ρ1, mh1, m1, e1, rh1, rs1, r1, w1⟩ => (Want.bind (rel := RV T) rh1 rs1 w1).mono fun y H2 ⟨ρ2, mh2, m2, e2, rh2, rs2, r2, w2⟩ => ?_
  split at w2
  · rename_i mh3 ep
    refine ⟨ρ2, m1, m2, mh2, _, mh3, rh2, r1.mono e2, r2, ep, fun v ρ3 H3 e3 rh3 rv => ?_⟩
    unfold RV at rv
    subst rv
    refine ⟨true, rfl, ?_⟩
    rw [if_pos rfl]
    refine (Want.bind (rel := RV T) rh3 (rs2.mono e3) (w2.from e3 rh3.ne)).mono fun z H4 ⟨ρ4, mh4, m4, e4, rh4, rs4, r4, w4⟩ => ?_
    obtain ⟨m, mh5, hp, k⟩ := lft_want w4
    exact ⟨ρ4, m2, m4, mh4, m, mh5, rh4, (r2.mono e3).mono e4, r4, hp, k⟩
  · rename_i mh3 ep
    refine ⟨ρ2, m1, m2, mh2, _, mh3, rh2, r1.mono e2, r2, ep, fun v ρ3 H3 e3 rh3 rv => ?_⟩
    unfold RV at rv
    subst rv
    refine ⟨false, rfl, ?_⟩
    rw [if_neg Bool.false_ne_true]
    exact w2 _ ρ3 H3 e3 rh3 (by unfold RV; rfl)
  · exact w2.elim
theorem se_chain {op op' : CmpOp} {p p' : P2} (ho : OpR X (compareOp op) (R2of T p)) (ho' : OpR X (compareOp op') (R2of T p')) (ha : PE X a (TEof T W rt da)) (hb : PE X b (TEof T W rt db)) (hc : PE X c (TEof T W rt dc))
    (hm : lastMarks [op, op'] [b, c] = false) : PE X (.Compare a [op, op'] [b, c] pos) (TEof T W rt (chainD p p' da db dc)) :=
  (pe_chain ho ho' ha hb hc hm).imp fun σ H Q h => chain_of h
theorem st_chain {op op' : CmpOp} {p p' : P2} (ho : OpR X (compareOp op) (R2of T p)) (ho' : OpR X (compareOp op') (R2of T p')) (ha : PE X a (TEof T W rt da)) (hb : PE X b (TEof T W rt db)) (hc : PE X c (TEof T W rt dc))
    (hm : lastMarks [op, op'] [b, c] = false) : PT X (.Compare a [op, op'] [b, c] pos) (TTof T W rt (boolD (chainD p p' da db dc))) :=
  (pt_chain ho ho' ha hb hc hm).imp fun σ H Q ⟨ρ, env, mh, rh, rs, w⟩ => by
    refine chain_of ((Want.bind (rel := RV T) rh rs w).mono fun v H1 ⟨ρ1, mh1, m1, e1, rh1, rs1, r1, w1⟩ => ?_)
    cases m1 <;> first | exact w1.elim | skip
    rename_i k
    unfold RV at r1
    exact ⟨k, r1, w1 k ρ1 H1 .refl rh1 rfl⟩
end
/-! ### dict displays -/
abbrev DP := Rt → Env' → MH → Rs (List (MV × MV))
def RPs (T : Tx) (ρ : List Addr) (H : Hp) : List (MV × MV) → List (V × V) → Prop := Paired fun p q => RV T ρ H p.1 q.1 ∧ RV T ρ H p.2 q.2
def pnilD : DP := fun _ _ mh => .ok [] mh
def pconsD (k v : DE) (t : DP) : DP := bnd k fun x => bnd v fun y => bnd t fun ps _ _ mh => .ok ((x, y) :: ps) mh
def dnewD : DE := fun _ _ mh => .ok (.loc mh.length) (mh ++ [.dct []])
def dispD (t : DP) : DE := fun rt env mh => match t rt env (mh ++ [.dct []]) with
  | .ok ps mh' => match mh'[mh.length]? with
    | some (.dct []) => if ps.all (fun p => isKeyM p.1) && Nat.ble ps.length 15 then .ok (.loc mh.length) (mh'.set mh.length (.dct (dmerge [] ps))) else .stuck
    | _ => .stuck
  | .exc e mh' => .exc e mh'
  | .stuck => .stuck
section
variable {T : Tx} {X : Cx} {W : WX} {rt : Rt} {pos : Pos}
theorem tp_nil {σ : St} {H : Hp} {Q : List (V × V) → Hp → Prop} (h : Tof T (RPs T) W rt pnilD σ H Q) : tPairs [] σ H Q := by
  obtain ⟨ρ, env, mh, rh, rs, w⟩ := h
  exact w [] ρ H .refl rh .nil
theorem tp_cons {k v : DE} {t : DP} {trs : List (TE × TE)} (ht : ∀ σ H Q, Tof T (RPs T) W rt t σ H Q → tPairs trs σ H Q) {σ : St} {H : Hp} {Q : List (V × V) → Hp → Prop} (h : Tof T (RPs T) W rt (pconsD k v t) σ H Q) :
    tPairs ((TEof T W rt k, TEof T W rt v) :: trs) σ H Q := by
  obtain ⟨ρ, env, mh, rh, rs, w⟩ := h
  refine (Want.bind (rel := RV T) rh rs w).mono fun x H1 ⟨ρ1, mh1, m1, e1, rh1, rs1, r1, w1⟩ => (Want.bind (rel := RV T) rh1 rs1 w1).mono fun y H2 ⟨ρ2, mh2, m2, e2, rh2, rs2, r2, w2⟩ => ht _ _ _ ?_
  refine (Want.bind (rel := RPs T) rh2 rs2 w2).mono fun ps H3 ⟨ρ3, mh3, qs, e3, rh3, rs3, r3, w3⟩ => ?_
  exact w3 _ ρ3 H3 .refl rh3 (.cons ⟨(r1.mono e2).mono e3, r2.mono e3⟩ r3)
theorem keys_of {ρ : List Addr} {H : Hp} : ∀ {ms : List (MV × MV)} {ps : List (V × V)}, RPs T ρ H ms ps → ms.all (fun p => isKeyM p.1) = true → ∃ kvs : List (Key × V), ps = kvs.map (fun kv => (kV kv.1, kv.2)) ∧ RKs T ρ H ms kvs ∧ kvs.length = ms.length := by
  intro ms ps r
  unfold RPs at r
  induction r with
  | nil => intro _; exact ⟨[], rfl, rfl, rfl⟩
  | @cons p q ms ps h t ih =>
    intro ha
    rw [List.all_cons] at ha
    have ha := Bool.and_eq_true_iff.mp ha
    obtain ⟨kvs, e1, e2, e3⟩ := ih ha.2
    obtain ⟨k, m⟩ := p
    obtain ⟨kv, v⟩ := q
    obtain ⟨kk, ek, ekv⟩ := key_of_is ha.1 h.1
    simp only at ek ekv
    subst ek ekv
    exact ⟨(kk, v) :: kvs, by rw [e1]; rfl, ⟨kk, v, kvs, rfl, rfl, h.2, e2⟩, by rw [List.length_cons, List.length_cons, e3]⟩
theorem se_dnew : PE X (.Dict [] [] pos) (TEof T W rt dnewD) :=
  pe_dnewK.imp fun σ H Q ⟨ρ, env, mh, rh, rs, w⟩ p hp => by
    have k : Aft T ρ H (.loc mh.length) (mh ++ [.dct []]) Q := w
    exact k.dct rh (l := []) rfl hp
theorem se_disp {keys : List (Option Expr)} {values : List Expr} {t : DP} {trs : List (TE × TE)} (h : PPs X pos keys values trs) (ht : ∀ σ H Q, Tof T (RPs T) W rt t σ H Q → tPairs trs σ H Q) (hall : keys.all (·.isSome) = true) (hl : keys.length = values.length) (h0 : keys ≠ [])
    (h15 : keys.length ≤ 15) : PE X (.Dict keys values pos) (TEof T W rt (dispD t)) :=
  (pe_disp h hall hl h0 h15).imp fun σ H Q ⟨ρ, env, mh, rh, rs, w⟩ p hp => by
    obtain ⟨e, rh', g⟩ := rh.push (ho := .dK []) (o := .dct []) hp ⟨[], rfl, rfl⟩
    refine ht _ _ _ ⟨_, env, _, rh', rs.mono e, ?_⟩
    unfold dispD at w
    cases et : t rt env (mh ++ [.dct []]) with
    | stuck => rw [et] at w; exact w
    | exc x mh' =>
      rw [et] at w
      exact fun c d ρ2 H2 e2 r2 q => w c d ρ2 H2 (e.trans e2 rh'.ne) r2 q
    | ok ps mh' =>
      rw [et] at w
      dsimp only at w
      intro qs ρ2 H2 e2 r2 rq
      split at w
      · rename_i en
        split at w
        · rename_i hc
          have hc := Bool.and_eq_true_iff.mp hc
          have g2 : ρ2[mh.length]? = some p := e2.get g
          obtain ⟨l, hl1, hl2⟩ := r2.ob _ p _ g2 en
          have hl2 : RKs T ρ2 H2 [] l := hl2
          unfold RKs at hl2
          subst hl2
          obtain ⟨kvs, eq, rk, lk⟩ := keys_of rq hc.1
          refine ⟨hl1, kvs, eq, by rw [lk]; exact Nat.le_of_ble_eq_true hc.2, ?_⟩
          have rm := RKs.merge (kvs := []) (l := []) (T := T) (ρ := ρ2) (H := H2) rfl rk
          obtain ⟨e3, rh3⟩ := r2.put (o := .dct (dmerge [] ps)) (ho := .dK (mergeK [] kvs)) g2 ⟨_, rfl, rm⟩
          exact w _ ρ2 _ ((e.trans e2 rh'.ne).trans e3 r2.ne) rh3 (by unfold RV; exact ⟨p, rfl, g2⟩)
        · exact w.elim
      · exact w.elim
end
/-! ### len(set(x)), sorted(set(x)) -/
section
variable {T : Tx} {X : Cx} {W : WX} {rt : Rt} {pos p p2 q : Pos} {a : Expr} {d : DE}
theorem se_lenSet (hK : X.K = T.K) (hc : X.calm = true) (hg : Gl X "len") (hm : X.mg "len" = none) (hg2 : Gl X "set") (hm2 : X.mg "set" = none) (ha : PE X a (TEof T W rt d)) (na : starEach [a] X.env = (false, eval a X.env) :: starEach [] X.env) :
    PE X (.Call (.Name "len" p) [.Call (.Name "set" p2) [a] [] q] [] pos) (TEof T W rt (op1D lenSetM d)) :=
  (pe_lenSetK hc hg hm hg2 hm2 ha na).imp fun σ H Q ⟨ρ, env, mh, rh, rs, w⟩ => (Want.bind (rel := RV T) rh rs w).mono fun x H1 ⟨ρ1, mh1, m, e1, rh1, rs1, r1, w1⟩ => by
    obtain ⟨r, mh3, hp, k⟩ := lft_want w1
    unfold lenSetM at hp
    split at hp
    · split at hp
      · rename_i xs en
        split at hp
        · rename_i hk
          cases hp
          have hk := Bool.and_eq_true_iff.mp hk
          obtain ⟨l, vs, rfl, g, h1, r2⟩ := loc_lst rh1 r1 en
          obtain ⟨ks, e1, e2⟩ := keysM_rel r2 hk.1
          subst e1 e2
          refine ⟨l, ks, rfl, SqL.of h1, ?_, ?_⟩
          · have := Nat.le_of_ble_eq_true hk.2
            rw [List.length_map] at this
            exact this
          · refine k.pure rh1 ?_
            have e : dedM [] (ks.map keyM) = (ded [] ks).map keyM := dedM_keys ks []
            rw [e, List.length_map]
            exact .int
        · cases hp
      · cases hp
    · cases hp
theorem rvs_ints {ρ : List Addr} {H : Hp} (ns : List Int) : RVs T ρ H (ns.map .int) (ns.map V.int) := by
  induction ns with
  | nil => exact .nil
  | cons n ns ih => exact .cons .int ih
theorem se_srtSet (hK : X.K = T.K) (hc : X.calm = true) (hg : Gl X "sorted") (hm : X.mg "sorted" = none) (hg2 : Gl X "set") (hm2 : X.mg "set" = none) (ha : PE X a (TEof T W rt d)) (na : starEach [a] X.env = (false, eval a X.env) :: starEach [] X.env) :
    PE X (.Call (.Name "sorted" p) [.Call (.Name "set" p2) [a] [] q] [] pos) (TEof T W rt (op1D srtSetM d)) :=
  (pe_srtSet hc hg hm hg2 hm2 ha na).imp fun σ H Q ⟨ρ, env, mh, rh, rs, w⟩ => (Want.bind (rel := RV T) rh rs w).mono fun x H1 ⟨ρ1, mh1, m, e1, rh1, rs1, r1, w1⟩ => by
    obtain ⟨r, mh3, hp, k⟩ := lft_want w1
    unfold srtSetM at hp
    split at hp
    · split at hp
      · rename_i xs en
        split at hp
        · rename_i ns ei
          split at hp
          · rename_i hk
            cases hp
            obtain ⟨l, vs, rfl, g, h1, r2⟩ := loc_lst rh1 r1 en
            have e2 := intsM_rel r2 ei
            subst e2
            have e3 : ns.length < 64 := Nat.le_of_ble_eq_true hk
            exact ⟨l, ns, rfl, SqL.of h1, e3, fun p0 hp0 => k.lst rh1 (rvs_ints _) hp0⟩
          · cases hp
        · cases hp
      · cases hp
    · cases hp
end
/-! ### the methods, by receiver -/
section
variable {T : Tx} {X : Cx}
theorem setDf_ok : MtR X "dict.setdefault" (RMof T setDfM) := by
  intro pins s σ H x xs v us Q I rx rs ⟨ρ, a, as, mh, m, mh', rh, ra, rb, hp, k⟩
  unfold setDfM at hp
  split at hp
  · rename_i n y d
    split at hp
    · rename_i kvs en
      split at hp
      · rename_i hc
        have hc := Bool.and_eq_true_iff.mp hc
        unfold RV at ra
        obtain ⟨p, rfl, g⟩ := ra
        obtain ⟨l, e2, rk⟩ := rh.ob _ p _ g en
        have rk : RKs T ρ H kvs l := rk
        obtain rfl : v = Value.ref p := rx
        obtain ⟨w, z, rfl, rw', rz⟩ := rb.two
        obtain ⟨q, rfl, rfl⟩ := key_of_is hc.1 rw'
        obtain ⟨u, u2, rfl, ru, ru2⟩ := vals2 rs
        have hl : l.length < sizeLine := by
          have h1 : kvs.length + 1 ≤ lim := Nat.le_of_ble_eq_true hc.2
          rw [rk.len, sizeLine_eq]
          unfold lim at h1
          omega
        refine d_setd I e2 ru ru2 hl (fun v hv w' s' I' rr => ⟨_, H, I', rr, ?_⟩) (fun hn w' s' I' rr => ⟨_, _, I', rr, ?_⟩)
        · rcases rk.find q with ⟨e3, e4⟩ | ⟨m1, v1, e3, e4, r3⟩
          · rw [hv] at e4; cases e4
          · rw [e3] at hp; cases hp; rw [hv] at e4; cases e4; exact k.pure rh r3
        · rcases rk.find q with ⟨e3, e4⟩ | ⟨m1, v1, e3, e4, r3⟩
          · rw [e3] at hp; cases hp
            obtain ⟨e5, rh5⟩ := rh.put (o := .dct (dputM kvs (keyM q) m)) (ho := .dK (putK l q z)) g ⟨_, rfl, rk.put q rz⟩
            exact k _ ρ _ e5 rh5 (rz.mono e5)
          · rw [hn] at e4; cases e4
      · cases hp
    · cases hp
  · cases hp
theorem alt_lst {name id : String} {pm : PM} (hK : X.K = T.K) (slot : Slot "list" name id) (hty : typeOf (.builtin id) = pure (.type "method_descriptor")) (hm : MtR X id (RMof T pm)) : AltOk T X name isLstM pm :=
  ⟨"list", id, PySem.F.plainAttrs_list, slot, hty, hm, fun pins s σ H ρ mh m x v I rh r rv h => ty_lst hK I rh r rv h⟩
theorem alt_str {name id : String} {pm : PM} (slot : Slot "str" name id) (hty : typeOf (.builtin id) = pure (.type "method_descriptor")) (hm : MtR X id (RMof T pm)) : AltOk T X name isStrM pm :=
  ⟨"str", id, PySem.F.plainAttrs_str, slot, hty, hm, fun pins s σ H ρ mh m x v I rh r rv h => ty_str I rh r rv h⟩
theorem alt_dct {name id : String} {pm : PM} (hw : WdOk T X) (slot : Slot "dict" name id) (hty : typeOf (.builtin id) = pure (.type "method_descriptor")) (hm : MtR X id (RMof T pm)) : AltOk T X name isDctM pm :=
  ⟨"dict", id, PySem.F.plainAttrs_dict, slot, hty, hm, fun pins s σ H ρ mh m x v I rh r rv h => ty_dct hw I rh r rv h⟩
end
end Vf
end L2
end
section
/-! VJ: the text's forms, looked at. -/
namespace L2
namespace Vf
open PySem PySem.Spec PyProof.Rows
def notStar : Expr → Bool
  | .Starred _ _ => false
  | _ => true
theorem star_cons {e : Expr} {es : List Expr} {env : Env} (h : notStar e = true) : starEach (e :: es) env = (false, eval e env) :: starEach es env := by
  cases e <;> first | rfl | cases h
def notStars : List Expr → Bool
  | [] => true
  | e :: es => notStar e && notStars es
theorem star_any {env : Env} {pos : Pos} : ∀ {es : List Expr}, notStars es = true → (backTo pos (starEach es env)).any (·.1) = false
  | [], _ => rfl
  | e :: es, h => by
    have h := Bool.and_eq_true_iff.mp h
    rw [star_cons h.1]
    show (false || (backTo pos (starEach es env)).any (·.1)) = false
    rw [star_any h.2]; rfl
theorem star_all {env : Env} {pos : Pos} : ∀ {es : List Expr}, notStars es = true → (backTo pos (starEach es env)).all (fun x => !x.1) = true
  | [], _ => rfl
  | e :: es, h => by
    have h := Bool.and_eq_true_iff.mp h
    rw [star_cons h.1]
    show (!false && (backTo pos (starEach es env)).all (fun x => !x.1)) = true
    rw [star_all h.2]; rfl
def plainBase : Expr → Bool
  | .Call (.Name _ _) [] [] _ => false
  | _ => true
theorem base_ok {o : Expr} {m : Str} {env : Env} {w : Sem Value} (h : plainBase o = true) : attributeBase o m env w = w := by
  unfold attributeBase
  split
  · cases h
  · rfl
def notSet : Expr → Bool
  | .Set _ _ _ => false
  | _ => true
theorem marks_ok {op : CmpOp} {b : Expr} (h : notSet b = true) : behindInMarks op b = false := by
  cases b <;> first | rfl | cases h
theorem folded_ok {e : Expr} {env : Env} (h : notSet e = true) : ∀ x, foldedSetIterable e env x = pure x := by
  cases e <;> first | (intro x; rfl) | cases h
def notSlice : Expr → Bool
  | .Slice _ _ _ _ => false
  | _ => true
theorem plainIx_ok {b : Expr} (h : notSlice b = true) : PlainIx b := by
  cases b <;> first | (intro o i; rfl) | cases h
def plainT : Expr → Bool
  | .Name _ _ => true
  | .Call _ _ _ _ => true
  | .Subscript _ _ _ => true
  | .BinOp _ _ _ _ => true
  | .ListComp _ _ _ _ => true
  | .Tuple _ _ _ => true
  | .List _ _ => true
  | .Constant _ _ _ => true
  | .Attribute _ _ _ => true
  | _ => false
theorem plainT_ok {e : Expr} {env : Env} (h : plainT e = true) : ∀ whole, isTrue e env whole = (do let v ← whole; standAt e.pos; holding [v] (truthy v)) := by
  cases e <;> first | (intro w; rfl) | cases h
theorem ae_cons {e : Expr} {es : List Expr} {env : Env} (h : notStar e = true) : (assignEach (e :: es) env).map (·.2) = assign e env :: (assignEach es env).map (·.2) := by
  cases e <;> first | rfl | cases h
theorem ae_len {env : Env} : ∀ {es : List Expr}, notStars es = true → (assignEach es env).length = es.length
  | [], _ => rfl
  | e :: es, h => by
    have h := Bool.and_eq_true_iff.mp h
    have := ae_len (env := env) h.2
    cases e <;> first
      | (show (assignEach es env).length + 1 = es.length + 1; rw [this])
      | cases h.1
theorem ae_star {env : Env} : ∀ {es : List Expr}, notStars es = true → (assignEach es env).findIdx? (·.1) = none
  | [], _ => rfl
  | e :: es, h => by
    have h := Bool.and_eq_true_iff.mp h
    have ih := ae_star (env := env) h.2
    have key : ∀ t : Value → Sem Unit, ((false, t) :: assignEach es env).findIdx? (·.1) = none := fun t => by
      rw [List.findIdx?_cons]
      simp [ih]
    cases e <;> first
      | exact key _
      | cases h.1
def kwNames : List Keyword → Option (List Str)
  | [] => some []
  | ⟨some n, _, _⟩ :: r => match kwNames r with
    | some l => some (n :: l)
    | none => none
  | _ :: _ => none
theorem kw_facts {env : Env} {pos : Pos} : ∀ {ks : List Keyword} {l : List Str}, kwNames ks = some l → (backToKw pos (keywordEach ks env)).all (·.1.isSome) = true ∧ (backToKw pos (keywordEach ks env)).filterMap (·.1) = l ∧ (backToKw pos (keywordEach ks env)).any (·.1.isNone) = false
  | [], l, h => by cases h; exact ⟨rfl, rfl, rfl⟩
  | ⟨some n, e, p⟩ :: r, l, h => by
    unfold kwNames at h
    split at h
    · rename_i l' e'
      cases h
      obtain ⟨h1, h2, h3⟩ := kw_facts (env := env) (pos := pos) e'
      refine ⟨?_, ?_, ?_⟩
      · show ((some n).isSome && (backToKw pos (keywordEach r env)).all (·.1.isSome)) = true
        rw [h1]; rfl
      · show n :: (backToKw pos (keywordEach r env)).filterMap (·.1) = n :: l'
        rw [h2]
      · show ((some n).isNone || (backToKw pos (keywordEach r env)).any (·.1.isNone)) = false
        rw [h3]; rfl
    · cases h
  | ⟨none, e, p⟩ :: r, l, h => by cases h
def notComp : Expr → Bool
  | .ListComp _ _ _ _ => false
  | .SetComp _ _ _ _ => false
  | .DictComp _ _ _ _ _ => false
  | _ => true
theorem swaps_ok {e : Expr} {t : Option Expr} {l : Nat} {env : Env} (h : notComp e = true) : swapsWith e t l env = pure false := by
  cases e <;> first | rfl | cases h
/-! ### comprehension blocks -/
theorem lookup_map {f : Str → NameKind → NameKind} : ∀ (l : List (Str × NameKind)) (x : Str), (l.map fun (n, k) => (n, f n k)).lookup x = (l.lookup x).map (f x)
  | [], _ => rfl
  | (n, k) :: r, x => by
    show List.lookup x ((n, f n k) :: r.map fun (n, k) => (n, f n k)) = _
    rw [List.lookup_cons, List.lookup_cons]
    cases e : x == n with
    | true =>
      have e : x = n := eq_of_beq e
      subst e; rfl
    | false => exact lookup_map r x
theorem relabel_lookup (scope : Scope) (env : Env) (x : Str) : (relabel scope env).names.lookup x = (scope.names.lookup x).map fun k => if (k == .free && env.scope.kind == .function && env.kindOf x == some .cell) then .cell else k := by
  rw [← lookup_map (f := fun n k => if (k == .free && env.scope.kind == .function && env.kindOf n == some .cell) then .cell else k)]
  unfold relabel
  congr 1
  apply List.map_congr_left
  rintro ⟨n, k⟩ _
  dsimp only
  split <;> rfl
theorem nm_blk {N : List Str} {nm : List (Str × NameKind)} {X : Cx} (o : NmOk N nm X) (s : Shared) (H : Hp) (scope : Scope) (C : Addr) (cl : List (Str × Addr)) (fp : List Addr) : NmOk N scope.names (X.blk s H scope (compEnvC scope cl C X.env) fp) := by
  have key : ∀ x k, scope.names.lookup x = some k → (X.blk s H scope (compEnvC scope cl C X.env) fp).env.scope.names.lookup x = some (if (k == .free && X.env.scope.kind == .function && X.env.kindOf x == some .cell) then .cell else k) := fun x k h => by
    show (relabel scope X.env).names.lookup x = _
    rw [relabel_lookup, h]; rfl
  refine ⟨o.N_, o.nd, fun x h => ?_, fun x h => ?_, fun x h => ?_, fun x h => ?_, fun x h => ?_⟩
  · rw [key x _ h]; rfl
  · rw [key x _ h]; rfl
  · rw [key x _ h]
    split
    · exact .inr rfl
    · exact .inl rfl
  · rw [key x _ h]; rfl
  · show (scope.names.lookup x == some .cell) = true
    rw [h]; rfl
/-- a block's own names with their places -/
def ixOf : List Str → Str → Nat → Option Nat
  | [], _, _ => none
  | n :: r, x, i => if n == x then some i else ixOf r x (i + 1)
theorem ixOf_ok : ∀ {N : List Str} {x : Str} {i j : Nat}, ixOf N x i = some j → i ≤ j ∧ N[j - i]? = some x
  | [], _, _, _, h => by cases h
  | n :: r, x, i, j, h => by
    unfold ixOf at h
    split at h
    · rename_i e
      cases h
      exact ⟨Nat.le_refl _, by simp [eq_of_beq e]⟩
    · obtain ⟨h1, h2⟩ := ixOf_ok h
      refine ⟨by omega, ?_⟩
      have : j - i = (j - (i + 1)) + 1 := by omega
      rw [this, List.getElem?_cons_succ]; exact h2
def ownOf (N : List Str) : List (Str × NameKind) → List (Str × Nat)
  | [] => []
  | (x, k) :: r => match k, ixOf N x 0 with
    | .local, some i => (x, i) :: ownOf N r
    | .cell, some i => (x, i) :: ownOf N r
    | _, _ => ownOf N r
def blkS (N : List Str) (nm : List (Str × NameKind)) (scope : Scope) (own : List (Str × Nat)) : Bool :=
  (match scope.kind with
    | .function => true
    | _ => false) && (scope.names.all (fun y => decide (scope.names.lookup y.1 = some y.2)) && (own.all (fun p => decide (N[p.2]? = some p.1)) &&
    scope.names.all (fun y => match y.2 with
      | .free => (match nm.lookup y.1 with
        | some .cell => true
        | some .free => true
        | _ => false)
      | .local => decide (y.1 ∈ own.map (·.1)) || decide (y.1 ∉ N)
      | .cell => decide (y.1 ∈ own.map (·.1)) || decide (y.1 ∉ N)
      | _ => true)))
theorem blkS_ok {N : List Str} {nm : List (Str × NameKind)} {X : Cx} {scope : Scope} {own : List (Str × Nat)} (o : NmOk N nm X) (h : blkS N nm scope own = true) : BlkOk X.N X.env.scope scope own := by
  have h := Bool.and_eq_true_iff.mp h
  have h2 := Bool.and_eq_true_iff.mp h.2
  have h3 := Bool.and_eq_true_iff.mp h2.2
  rw [o.N_]
  refine ⟨?_, fun y hy => of_decide_eq_true (List.all_eq_true.mp h2.1 y hy), fun p hp => of_decide_eq_true (List.all_eq_true.mp h3.1 p hp), fun y hy e => ?_, fun y hy e => ?_⟩
  · have q := h.1
    split at q
    · assumption
    · cases q
  · have q := List.all_eq_true.mp h3.2 y hy
    rw [e] at q
    dsimp only at q
    split at q
    · rename_i e2; exact .inl (o.ce _ e2)
    · rename_i e2; exact (o.fr _ e2).symm
    · cases q
  · have q := List.all_eq_true.mp h3.2 y hy
    rcases e with e | e
    · rw [e] at q
      exact (Bool.or_eq_true_iff.mp q).imp of_decide_eq_true of_decide_eq_true
    · rw [e] at q
      exact (Bool.or_eq_true_iff.mp q).imp of_decide_eq_true of_decide_eq_true
end Vf
end L2
end
section
/-! VK: from the text to denotations. -/
namespace L2
namespace Vf
open PySem PySem.Spec PyProof.Rows
/-- what is known of the names: the def's slots, the kinds here, the module's constants, its defs (by number, with their parameters, the keyword calls that are met), the built-ins that the module leaves as they are -/
structure Gm where
  N : List Str
  nm : List (Str × NameKind)
  gl : List (Str × MV)
  fs : List (Str × (Nat × List Str × List (Nat × List Str)))
  bn : List Str
structure OkX (Γ : Gm) (T : Tx) (rt : Rt) (W : WX) (X : Cx) : Prop where
  K : X.K = T.K
  nm : NmOk Γ.N Γ.nm X
  cm : X.calm = true
  gd : X.A.guards = some []
  un : X.A.units + 200 < cLine
  tk : Takes X W
  gl : ∀ x m, Γ.gl.lookup x = some m → ∃ v u, X.mg x = some u ∧ RelV v u ∧ ∀ ρ H, RV T ρ H m v
  bn : ∀ x, Γ.bn.contains x = true → X.mg x = none
  fs : ∀ x q, Γ.fs.lookup x = some q → FnR T rt X q.1 x q.2.1 q.2.2
  wd : WdOk T X
def dbg : Str := "__debug__"
def cld : Str := "__classdict__"
def dnm : Str := "__name__"
/-- the built-in classes that are met as values -/
def tyIx (x : Str) : Option Nat := if x == ("bool" : Str) then some 1 else if x == ("int" : Str) then some 2 else if x == ("str" : Str) then some 3 else if x == ("list" : Str) then some 4 else if x == ("tuple" : Str) then some 5 else if x == ("dict" : Str) then some 6 else none
def cName (Γ : Gm) (x : Str) : Option DE := if x == dbg || x == cld then none else if isVis Γ.nm x then (match ixOf Γ.N x 0 with
    | some i => some (varD i)
    | none => none)
  else if isGlo Γ.nm x then (match Γ.gl.lookup x with
    | some m => some (conD m)
    | none => if Γ.bn.contains x then (match tyIx x with
      | some n => some (conD (.ty n))
      | none => none) else none)
  else none
def binP : Operator → Option P2
  | .Add => some addM
  | .Sub => some subM
  | .Mult => some mulM
  | .FloorDiv => some fdivM
  | .Mod => some modM
  | .Pow => some powM
  | _ => none
def cmpP : CmpOp → Option P2
  | .Eq => some eqM
  | .NotEq => some neM
  | .Lt => some ltM
  | .LtE => some leM
  | .Gt => some gtM
  | .GtE => some geM
  | .In => some inM
  | .NotIn => some notinM
  | .Is => some isM
  | .IsNot => some isnotM
/-- built-in functions, built-in classes called -/
def bltP (x : Str) : Option PN := if x == ("len" : Str) then some lenN else if x == ("abs" : Str) then some absN else if x == ("max" : Str) then some max2N else if x == ("min" : Str) then some min2N else if x == ("divmod" : Str) then some divmodN
  else if x == ("isinstance" : Str) then some isiN else if x == ("all" : Str) then some allN else if x == ("any" : Str) then some anyN else if x == ("repr" : Str) then some reprN
  else if x == ("sorted" : Str) then some sortedN else if x == ("sum" : Str) then some sumN else none
def btyP (x : Str) : Option PN := if x == ("int" : Str) then some intN else if x == ("tuple" : Str) then some tupleN else if x == ("list" : Str) then some listN
  else if x == ("dict" : Str) then some dictN else if x == ("str" : Str) then some strN else none
/-- methods of built-in classes -/
def mthP (m : Str) : Option Alts := if m == ("append" : Str) then some [(isLstM, appendM)] else if m == ("split" : Str) then some [(isStrM, splitM)] else if m == ("find" : Str) then some [(isStrM, findM)]
  else if m == ("extend" : Str) then some [(isLstM, extendM)] else if m == ("pop" : Str) then some [(isLstM, popM)] else if m == ("get" : Str) then some [(isDctM, getDM)]
  else if m == ("setdefault" : Str) then some [(isDctM, setDfM)] else none
def cAf (f : Expr → Option DE) : List Expr → Option DL
  | [] => some nilD
  | e :: es => match f e, cAf f es with
    | some d, some t => if notStar e then some (consD d t) else none
    | _, _ => none
def cKf (f : Expr → Option DE) : List Keyword → Option DL
  | [] => some nilD
  | ⟨_, e, _⟩ :: es => match f e, cKf f es with
    | some d, some t => some (consD d t)
    | _, _ => none
def cOf (f : Expr → Option DE) : Option Expr → Option DO
  | none => some noPartD
  | some e => match f e with
    | some d => some (partD d)
    | none => none
def cBoV (f : Expr → Option DE) (k : DE → DE → DE) : List Expr → Option DE
  | [] => none
  | [e] => f e
  | e :: es => match f e, cBoV f k es with
    | some a, some b => some (k a b)
    | _, _ => none
def cBoT (f : Expr → Option DB) (k : DB → DB → DB) : List Expr → Option DB
  | [] => none
  | [e] => f e
  | e :: es => match f e, cBoT f k es with
    | some a, some b => some (k a b)
    | _, _ => none
/-- what a loop walks; tup: whether its target is a tuple -/
def cIf (Γ : Gm) (f : Expr → Option DE) (tup : Bool) (e : Expr) : Option DI := match e with
  | .Call (.Name x _) es [] _ =>
    if x == ("range" : Str) && (Γ.bn.contains x && isGlo Γ.nm x) then (match es, cAf f es with
      | [_], some dl => some (rng1I dl)
      | [_, _], some dl => some (rng2I dl)
      | _, _ => none)
    else if x == ("enumerate" : Str) && (Γ.bn.contains x && (isGlo Γ.nm x && tup)) then (match es, cAf f es with
      | [_], some dl => some (enumI dl)
      | _, _ => none)
    else if x == ("zip" : Str) && (Γ.bn.contains x && (isGlo Γ.nm x && tup)) then (match es, cAf f es with
      | [_, _], some dl => some (zipI dl)
      | _, _ => none)
    else (match f e with
      | some d => some (anyI d)
      | none => none)
  | e => if notSet e then (match f e with
    | some d => some (anyI d)
    | none => none) else none
/-- targets: names (ok: which slots) -/
def cGn (Γ : Gm) (ok : Nat → Bool) : Expr → Option DG
  | .Name x _ => if isLoc Γ.nm x then (match ixOf Γ.N x 0 with
    | some i => if ok i then some (nameG i) else none
    | none => none) else none
  | _ => none
def cGns (Γ : Gm) (ok : Nat → Bool) : List Expr → Option DGs
  | [] => some nilG
  | e :: es => match cGn Γ ok e, cGns Γ ok es with
    | some g, some t => some (consG g t)
    | _, _ => none
def cGt (Γ : Gm) (ok : Nat → Bool) : Expr → Option DG
  | .Tuple es _ _ => match cGns Γ ok es with
    | some t => some (tupG es.length t)
    | none => none
  | e => cGn Γ ok e
def isTup : Expr → Bool
  | .Tuple _ _ _ => true
  | _ => false
def ifB (c a b : DB) : DB := bnd c fun k => match k with
  | true => a
  | false => b
abbrev CE := Gm → Expr → Option DE
abbrev CT := Gm → Expr → Option DB
def cCall (Γ : Gm) (f : Expr → Option DE) (x : Str) (es : List Expr) (kws : List Keyword) : Option DE :=
  if x == dbg || x == dnm || !isGlo Γ.nm x || !notStars es then none else match Γ.fs.lookup x with
    | some (i, ps, ss) => (match kws, es with
      | [], _ :: _ => (match cAf f es with
        | some dl => some (callD i ps.length dl)
        | none => none)
      | _ :: _, [] => (match kwNames kws, cKf f kws with
        | some ks, some dk => if ss.contains (0, ks) then some (callKD i ps.length 0 (ps.drop 0) ks nilD dk) else none
        | _, _ => none)
      | _ :: _, _ :: _ => (match kwNames kws, cAf f es, cKf f kws with
        | some ks, some dl, some dk => if ss.contains (es.length, ks) then some (callKD i ps.length es.length (ps.drop es.length) ks dl dk) else none
        | _, _, _ => none)
      | _, _ => none)
    | none => if Γ.bn.contains x then (match kws, es with
      | [], _ :: _ => (match cAf f es with
        | some dl => (match bltP x with
          | some p => some (opND p dl)
          | none => (match btyP x with
            | some p => some (opND p dl)
            | none => none))
        | none => none)
      | _, _ => none) else none
def cMeth (f : Expr → Option DE) (o : Expr) (m : Str) (apos pos : Pos) (es : List Expr) : Option DE :=
  if plainBase o && (apos.endLine == pos.line && (notStars es && Nat.blt es.length 29)) then (match es with
    | [] => (match f o, mthP m with
      | some d, some al => some (meth0D al d)
      | _, _ => none)
    | _ :: _ => (match f o, cAf f es, mthP m with
      | some d, some dl, some al => some (methAD al d dl)
      | _, _, _ => none)) else none
/-- pairs of a display -/
def cPf (f : Expr → Option DE) : List (Option Expr) → List Expr → Option DP
  | [], [] => some pnilD
  | some k :: ks, v :: vs => match f k, f v, cPf f ks vs with
    | some dk, some dv, some t => some (pconsD dk dv t)
    | _, _, _ => none
  | _, _ => none
def cDict (f : Expr → Option DE) (ks : List (Option Expr)) (vs : List Expr) : Option DE := match ks, vs with
  | [], [] => some dnewD
  | k :: ks, vs => if Nat.ble (k :: ks).length 15 then (match cPf f (k :: ks) vs with
    | some t => some (dispD t)
    | none => none) else none
  | _, _ => none
/-- len(set(x)), sorted(set(x)) -/
def cSet (Γ : Gm) (f : Expr → Option DE) (x : Str) (es : List Expr) (kws : List Keyword) : Option DE := match es, kws with
  | [.Call (.Name y _) [a] [] _], [] => if y == ("set" : Str) && (isGlo Γ.nm x && (isGlo Γ.nm y && (Γ.bn.contains x && (Γ.bn.contains y && notStar a)))) then (match f a with
    | some d => if x == ("len" : Str) then some (op1D lenSetM d) else if x == ("sorted" : Str) then some (op1D srtSetM d) else none
    | none => none) else none
  | _, _ => none
def stepE (ce : CE) (ct : CT) (Γ : Gm) (e : Expr) : Option DE := match e with
  | .Name x _ => cName Γ x
  | .Constant c _ _ => (match c with
    | .int i => some (conD (.int i))
    | .bool b => some (conD (.bl b))
    | .none => some (conD .non)
    | .str s => some (conD (.str s.cps.toList))
    | _ => none)
  | .BinOp a op b _ => (match binP op, ce Γ a, ce Γ b with
    | some p, some da, some db => some (op2D p da db)
    | _, _, _ => none)
  | .UnaryOp op a _ => (match op, ce Γ a with
    | .USub, some d => some (op1D negM d)
    | .Not, some d => some (notV d)
    | _, _ => none)
  | .BoolOp op es _ => (match op with
    | .And => cBoV (ce Γ) andV es
    | .Or => cBoV (ce Γ) orV es)
  | .Compare a ops bs _ => (match ops, bs with
    | [op], [b] => if notSet b then (match cmpP op, ce Γ a, ce Γ b with
      | some p, some da, some db => some (op2D p da db)
      | _, _, _ => none) else none
    | [op, op'], [b, c] => if notSet c then (match cmpP op, cmpP op', ce Γ a, ce Γ b, ce Γ c with
      | some p, some p', some da, some db, some dc => some (chainD p p' da db dc)
      | _, _, _, _, _ => none) else none
    | _, _ => none)
  | .IfExp c a b _ => (match ct Γ c, ce Γ a, ce Γ b with
    | some dc, some da, some db => some (ifD dc da db)
    | _, _, _ => none)
  | .Tuple es _ _ => (match cAf (ce Γ) es with
    | some dl => some (opND tupM dl)
    | none => none)
  | .List es _ => (match cAf (ce Γ) es with
    | some dl => some (opND lstM dl)
    | none => none)
  | .Subscript a b _ => (match b with
    | .Slice lo hi st _ => (match st, ce Γ a, cOf (ce Γ) lo, cOf (ce Γ) hi with
      | none, some d, some l, some h => some (sliceD d l h)
      | _, _, _, _ => none)
    | b => (match ce Γ a, ce Γ b with
      | some da, some db => some (op2D ixM da db)
      | _, _ => none))
  | .Call f es kws pos => (match f with
    | .Name x _ => (match cSet Γ (ce Γ) x es kws with
      | some d => some d
      | none => cCall Γ (ce Γ) x es kws)
    | .Attribute o m apos => (match kws with
      | [] => cMeth (ce Γ) o m apos pos es
      | _ => none)
    | _ => none)
  | .Dict ks vs _ => cDict (ce Γ) ks vs
  | .ListComp elt gs scope _ => (match gs with
    | [⟨tg, it, ifs, a⟩] => if a == 0 then (
        let own := ownOf Γ.N scope.names
        let Γ' : Gm := { Γ with nm := scope.names }
        if blkS Γ.N Γ.nm scope own && notSet it then (match cIf Γ (ce Γ) (isTup tg) it, cGt Γ' (fun i => (own.map (·.2)).contains i) tg, ce Γ' elt, (match ifs with
            | [] => some yesD
            | [c] => ct Γ' c
            | _ => none) with
          | some di, some dg, some de, some dt => some (lcD di (own.map (·.2)) dg dt de)
          | _, _, _, _ => none) else none) else none
    | _ => none)
  | _ => none
def stepT (ce : CE) (ct : CT) (Γ : Gm) (e : Expr) : Option DB := match e with
  | .BoolOp op es _ => (match op with
    | .And => cBoT (ct Γ) andD es
    | .Or => cBoT (ct Γ) orD es)
  | .UnaryOp op a _ => (match op, ct Γ a with
    | .Not, some d => some (notD d)
    | _, _ => none)
  | .Compare a ops bs _ => (match ops, bs with
    | [op], [b] => if notSet b then (match cmpP op, ce Γ a, ce Γ b with
      | some p, some da, some db => some (boolD (op2D p da db))
      | _, _, _ => none) else none
    | [op, op'], [b, c] => if notSet c then (match cmpP op, cmpP op', ce Γ a, ce Γ b, ce Γ c with
      | some p, some p', some da, some db, some dc => some (boolD (chainD p p' da db dc))
      | _, _, _, _, _ => none) else none
    | _, _ => none)
  | .IfExp c a b _ => (match ct Γ c, ct Γ a, ct Γ b with
    | some dc, some da, some db => some (ifB dc da db)
    | _, _, _ => none)
  | e => if plainT e then (match ce Γ e with
    | some d => some (truD d)
    | none => none) else none
mutual
def cE : Nat → CE
  | 0 => fun _ _ => none
  | n + 1 => stepE (cE n) (cT n)
def cT : Nat → CT
  | 0 => fun _ _ => none
  | n + 1 => stepT (cE n) (cT n)
end
end Vf
end L2
end
section
/-! VL: the expressions' denotations are right. -/
namespace L2
namespace Vf
open PySem PySem.Spec PyProof.Rows
def SoE (ce : CE) : Prop := ∀ Γ e d, ce Γ e = some d → ∀ T rt W X, OkX Γ T rt W X → PE X e (TEof T W rt d)
def SoT (ct : CT) : Prop := ∀ Γ e d, ct Γ e = some d → ∀ T rt W X, OkX Γ T rt W X → PT X e (TTof T W rt d)
section
variable {Γ : Gm} {T : Tx} {rt : Rt} {W : WX} {X : Cx} {f : Expr → Option DE} {g : Expr → Option DB}
theorem cAf_ok (h : ∀ e d, f e = some d → PE X e (TEof T W rt d)) : ∀ {es : List Expr} {dl : DL}, cAf f es = some dl → PA X es (TAof T W rt dl)
  | [], dl, e => by cases e; exact sa_nil
  | e :: es, dl, q => by
    unfold cAf at q
    split at q
    · rename_i d t ed et
      split at q
      · rename_i hs
        cases q
        exact sa_cons (h e d ed) (cAf_ok h et) (star_cons hs)
      · cases q
    · cases q
theorem sk_nil : PK X [] (TAof T W rt nilD) := ⟨fun pos pins s σ H Q I ⟨ρ, env, mh, rh, rs, w⟩ => pk_nil.run pos pins s σ H Q I (w [] ρ H .refl rh .nil)⟩
theorem sk_cons {nm : Option Str} {e : Expr} {kp : Pos} {kws : List Keyword} {d : DE} {t : DL} (ha : PE X e (TEof T W rt d)) (hr : PK X kws (TAof T W rt t)) : PK X (⟨nm, e, kp⟩ :: kws) (TAof T W rt (consD d t)) :=
  ⟨fun pos pins s σ H Q I ⟨ρ, env, mh, rh, rs, w⟩ => (pk_cons ha hr).run pos pins s σ H Q I ((Want.bind rh rs w).mono fun x H1 ⟨ρ1, mh1, a, e1, rh1, rs1, ra, w1⟩ => (Want.bind (rel := RVs T) rh1 rs1 w1).mono fun y H2 ⟨ρ2, mh2, b, e2, rh2, rs2, rb, w2⟩ =>
    w2 _ ρ2 H2 .refl rh2 (.cons (ra.mono e2) rb))⟩
theorem cKf_ok (h : ∀ e d, f e = some d → PE X e (TEof T W rt d)) : ∀ {es : List Keyword} {dl : DL}, cKf f es = some dl → PK X es (TAof T W rt dl)
  | [], dl, e => by cases e; exact sk_nil
  | ⟨n, e, p⟩ :: es, dl, q => by
    unfold cKf at q
    split at q
    · rename_i d t ed et
      cases q
      exact sk_cons (h e d ed) (cKf_ok h et)
    · cases q
theorem cOf_ok (h : ∀ e d, f e = some d → PE X e (TEof T W rt d)) {o : Option Expr} {d : DO} (q : cOf f o = some d) : PO X o (TOof T W rt d) := by
  unfold cOf at q
  split at q
  · cases q; exact so_none
  · split at q
    · rename_i ed
      cases q; exact so_some (h _ _ ed)
    · cases q
theorem cBoV_and (h : ∀ e d, f e = some d → PE X e (TEof T W rt d)) {pos : Pos} : ∀ {es : List Expr} {d : DE}, cBoV f andV es = some d → PE X (.BoolOp .And es pos) (TEof T W rt d)
  | [], d, q => by cases q
  | [e], d, q => se_one (h e d q)
  | e :: e2 :: es, d, q => by
    unfold cBoV at q
    split at q
    · rename_i a b ea eb
      cases q
      exact se_and (h e a ea) (cBoV_and h eb)
    · cases q
theorem cBoV_or (h : ∀ e d, f e = some d → PE X e (TEof T W rt d)) {pos : Pos} : ∀ {es : List Expr} {d : DE}, cBoV f orV es = some d → PE X (.BoolOp .Or es pos) (TEof T W rt d)
  | [], d, q => by cases q
  | [e], d, q => se_one (h e d q)
  | e :: e2 :: es, d, q => by
    unfold cBoV at q
    split at q
    · rename_i a b ea eb
      cases q
      exact se_or (h e a ea) (cBoV_or h eb)
    · cases q
theorem cBoT_and (h : ∀ e d, g e = some d → PT X e (TTof T W rt d)) {pos : Pos} : ∀ {es : List Expr} {d : DB}, cBoT g andD es = some d → PW X (.BoolOp .And es pos) (TTof T W rt d)
  | [], d, q => by cases q
  | [e], d, q => sw_and1 (h e d q)
  | e :: e2 :: es, d, q => by
    unfold cBoT at q
    split at q
    · rename_i a b ea eb
      cases q
      exact sw_and (h e a ea) (cBoT_and h eb)
    · cases q
theorem cBoT_or (h : ∀ e d, g e = some d → PT X e (TTof T W rt d)) {pos : Pos} : ∀ {es : List Expr} {d : DB}, cBoT g orD es = some d → PW X (.BoolOp .Or es pos) (TTof T W rt d)
  | [], d, q => by cases q
  | [e], d, q => sw_or1 (h e d q)
  | e :: e2 :: es, d, q => by
    unfold cBoT at q
    split at q
    · rename_i a b ea eb
      cases q
      exact sw_or (h e a ea) (cBoT_or h eb)
    · cases q
theorem str_eq {a b : Str} (h : (a == b) = true) : a = b := eq_of_beq h
theorem range_ne {x : Str} (h : x = "range") : True := trivial
theorem cIf_ok (o : OkX Γ T rt W X) (h : ∀ e d, f e = some d → PE X e (TEof T W rt d)) {tg e : Expr} {d : DI} (q : cIf Γ f (isTup tg) e = some d) : PI X tg e (TIof T W rt d) := by
  unfold cIf at q
  split at q
  · rename_i x px es pos
    split at q
    · rename_i hc
      have hc := Bool.and_eq_true_iff.mp hc
      have hd := Bool.and_eq_true_iff.mp hc.2
      have ex := str_eq hc.1
      subst ex
      split at q
      · rename_i a dl ea
        cases q
        have pa := cAf_ok h ea
        have hs : notStar a = true := by
          unfold cAf at ea
          split at ea
          · split at ea
            · assumption
            · cases ea
          · cases ea
        exact si_rng1 (o.nm.glo hd.2) (o.bn _ hd.1) pa (star_cons hs)
      · rename_i a b dl ea
        cases q
        have pa := cAf_ok h ea
        have hs : notStar a = true ∧ notStar b = true := by
          unfold cAf at ea
          split at ea
          · rename_i e2
            split at ea
            · rename_i e1
              unfold cAf at e2
              split at e2
              · split at e2
                · rename_i e3; exact ⟨e1, e3⟩
                · cases e2
              · cases e2
            · cases ea
          · cases ea
        exact si_rng2 (o.nm.glo hd.2) (o.bn _ hd.1) pa (by rw [star_cons hs.1, star_cons hs.2]; rfl) (star_cons hs.2)
      · cases q
    · split at q
      · rename_i hc
        have hc := Bool.and_eq_true_iff.mp hc
        have hd := Bool.and_eq_true_iff.mp hc.2
        have he := Bool.and_eq_true_iff.mp hd.2
        have ex := str_eq hc.1
        subst ex
        split at q
        · rename_i a dl ea
          cases q
          have pa := cAf_ok h ea
          have hs : notStar a = true := by
            unfold cAf at ea
            split at ea
            · split at ea
              · assumption
              · cases ea
            · cases ea
          have ht := he.2
          cases tg <;> first | cases ht | skip
          exact si_enum o.K (o.nm.glo he.1) (o.bn _ hd.1) pa (star_cons hs)
        · cases q
      · split at q
        · rename_i hc
          have hc := Bool.and_eq_true_iff.mp hc
          have hd := Bool.and_eq_true_iff.mp hc.2
          have he := Bool.and_eq_true_iff.mp hd.2
          have ex := str_eq hc.1
          subst ex
          split at q
          · rename_i a b dl ea
            cases q
            have pa := cAf_ok h ea
            have hs : notStar a = true ∧ notStar b = true := by
              unfold cAf at ea
              split at ea
              · rename_i e2
                split at ea
                · rename_i e1
                  unfold cAf at e2
                  split at e2
                  · split at e2
                    · rename_i e3; exact ⟨e1, e3⟩
                    · cases e2
                  · cases e2
                · cases ea
              · cases ea
            have ht := he.2
            cases tg <;> first | cases ht | skip
            exact si_zip o.K (o.nm.glo he.1) (o.bn _ hd.1) pa (star_cons hs.1) (by rw [star_cons hs.2]; rfl)
          · cases q
        · split at q
          · rename_i ed
            cases q
            exact si_any o.K (h _ _ ed)
          · cases q
  · split at q
    · split at q
      · rename_i ed
        cases q
        exact si_any o.K (h _ _ ed)
      · cases q
    · cases q
theorem ix0 {N : List Str} {x : Str} {i : Nat} (h : ixOf N x 0 = some i) : N[i]? = some x := by
  have := (ixOf_ok h).2
  rwa [Nat.sub_zero] at this
variable {P : L2.St → L2.St → Prop} {ok : Nat → Bool}
theorem cGn_ok (o : NmOk Γ.N Γ.nm X) (hP : ∀ i σ v, ok i = true → P σ (σ.set i (some v))) {tg : Expr} {d : DG} (q : cGn Γ ok tg = some d) : PG X tg (TGof T P rt d) ∧ notStar tg = true := by
  unfold cGn at q
  split at q
  · split at q
    · rename_i hx
      split at q
      · rename_i i ei
        split at q
        · rename_i hi
          cases q
          exact ⟨sg_name o (ix0 ei) hx (fun σ v => hP i σ v hi), rfl⟩
        · cases q
      · cases q
    · cases q
  · cases q
theorem cGns_ok (o : NmOk Γ.N Γ.nm X) (hP : ∀ i σ v, ok i = true → P σ (σ.set i (some v))) (h0 : ∀ σ, P σ σ) (h2 : ∀ a b c, P a b → P b c → P a c) : ∀ {es : List Expr} {d : DGs}, cGns Γ ok es = some d → PGs X es (TGsof T P rt d) ∧ notStars es = true
  | [], d, q => by cases q; exact ⟨sgs_nil h0, rfl⟩
  | e :: es, d, q => by
    unfold cGns at q
    split at q
    · rename_i g1 t1 eg et
      cases q
      obtain ⟨p1, s1⟩ := cGn_ok (T := T) (rt := rt) o hP eg
      obtain ⟨p2, s2⟩ := cGns_ok o hP h0 h2 et
      exact ⟨sgs_cons h2 p1 p2 (ae_cons s1), by unfold notStars; rw [s1, s2]; rfl⟩
    · cases q
theorem cGt_ok (hK : X.K = T.K) (hc : X.calm = true) (o : NmOk Γ.N Γ.nm X) (hP : ∀ i σ v, ok i = true → P σ (σ.set i (some v))) (h0 : ∀ σ, P σ σ) (h2 : ∀ a b c, P a b → P b c → P a c) {tg : Expr} {d : DG} (q : cGt Γ ok tg = some d) : PG X tg (TGof T P rt d) := by
  unfold cGt at q
  split at q
  · split at q
    · rename_i et
      cases q
      obtain ⟨p2, s2⟩ := cGns_ok (T := T) (rt := rt) o hP h0 h2 et
      exact sg_tup hK hc p2 (ae_len s2) (ae_star s2)
    · cases q
  · exact (cGn_ok o hP q).1
theorem ne_dnm {x : Str} (h : (x == dnm) = false) : x ≠ "__name__" := fun e => by
  subst e
  rw [show (("__name__" : Str) == dnm) = true from beq_self_eq_true _] at h
  cases h
theorem cCall_ok (o : OkX Γ T rt W X) (h : ∀ e d, f e = some d → PE X e (TEof T W rt d)) {x : Str} {px pos : Pos} {es : List Expr} {kws : List Keyword} {d : DE} (q : cCall Γ f x es kws = some d) : PE X (.Call (.Name x px) es kws pos) (TEof T W rt d) := by
  unfold cCall at q
  split at q
  · cases q
  · rename_i hc
    have hc : (x == dbg || x == dnm || !isGlo Γ.nm x || !notStars es) = false := Bool.eq_false_iff.mpr hc
    have h1 := Bool.or_eq_false_iff.mp hc
    have h2 := Bool.or_eq_false_iff.mp h1.1
    have h3 := Bool.or_eq_false_iff.mp h2.1
    have hg : isGlo Γ.nm x = true := by simpa using h2.2
    have hs : notStars es = true := by simpa using h1.2
    have hd : (x == ("__debug__" : Str)) = false := h3.1
    split at q
    · rename_i i ps ss ef
      have F := o.fs x _ ef
      split at q
      · rename_i e es'
        split at q
        · rename_i dl ed
          cases q
          have hs := Bool.and_eq_true_iff.mp hs
          exact se_call o.gd o.tk F (o.nm.glo hg) (cAf_ok h ed) hd (star_cons hs.1) (star_any hs.2)
        · cases q
      · split at q
        · rename_i ks dk ek ed
          split at q
          · rename_i hm
            cases q
            obtain ⟨k1, k2, k3⟩ := kw_facts (env := X.env) (pos := pos) ek
            exact se_callK0 o.gd o.tk F (by simpa using hm) (o.nm.glo hg) (cKf_ok h ed) hd k1 k2 (by rw [k3]; rfl)
          · cases q
        · cases q
      · rename_i k ks' e es'
        split at q
        · rename_i ks dl dk ek ed edk
          split at q
          · rename_i hm
            cases q
            obtain ⟨k1, k2, k3⟩ := kw_facts (env := X.env) (pos := pos) ek
            have hs2 := Bool.and_eq_true_iff.mp hs
            exact se_callK o.gd o.tk F (by simpa using hm) (o.nm.glo hg) (cAf_ok h ed) (cKf_ok h edk) hd (star_cons hs2.1) k1 k2 (by rw [star_any hs, k3]; rfl)
          · cases q
        · cases q
      · cases q
    · split at q
      · rename_i hb
        have hm := o.bn x hb
        split at q
        · rename_i e es'
          have hs := Bool.and_eq_true_iff.mp hs
          split at q
          · rename_i dl ed
            have pa := cAf_ok h ed
            split at q
            · rename_i p ep
              cases q
              unfold bltP at ep
              have hu := o.un
              split at ep
              · rename_i en; cases ep; have en := str_eq en; subst en
                exact se_blt (len_ok o.wd o.K) (o.nm.glo hg) hm boot_len pa (by decide) hd (star_cons hs.1) (star_any hs.2)
              split at ep
              · rename_i en; cases ep; have en := str_eq en; subst en
                exact se_blt abs_ok (o.nm.glo hg) hm boot_abs pa (by decide) hd (star_cons hs.1) (star_any hs.2)
              split at ep
              · rename_i en; cases ep; have en := str_eq en; subst en
                exact se_blt (max2_ok o.cm) (o.nm.glo hg) hm boot_max pa (by decide) hd (star_cons hs.1) (star_any hs.2)
              split at ep
              · rename_i en; cases ep; have en := str_eq en; subst en
                exact se_blt (min2_ok o.cm) (o.nm.glo hg) hm boot_min pa (by decide) hd (star_cons hs.1) (star_any hs.2)
              split at ep
              · rename_i en; cases ep; have en := str_eq en; subst en
                exact se_blt divmod_ok (o.nm.glo hg) hm boot_divmod pa (by decide) hd (star_cons hs.1) (star_any hs.2)
              split at ep
              · rename_i en; cases ep; have en := str_eq en; subst en
                exact se_blt (isi_ok o.K) (o.nm.glo hg) hm boot_isinstance pa (by decide) hd (star_cons hs.1) (star_any hs.2)
              split at ep
              · rename_i en; cases ep; have en := str_eq en; subst en
                exact se_blt (all_ok o.cm) (o.nm.glo hg) hm boot_all pa (by decide) hd (star_cons hs.1) (star_any hs.2)
              split at ep
              · rename_i en; cases ep; have en := str_eq en; subst en
                exact se_blt (any_ok o.cm) (o.nm.glo hg) hm boot_any pa (by decide) hd (star_cons hs.1) (star_any hs.2)
              split at ep
              · rename_i en; cases ep; have en := str_eq en; subst en
                exact se_blt (repr_ok o.K o.gd hu) (o.nm.glo hg) hm boot_repr pa (by decide) hd (star_cons hs.1) (star_any hs.2)
              split at ep
              · rename_i en; cases ep; have en := str_eq en; subst en
                exact se_blt (sorted_ok o.cm) (o.nm.glo hg) hm boot_sorted pa (by decide) hd (star_cons hs.1) (star_any hs.2)
              split at ep
              · rename_i en; cases ep; have en := str_eq en; subst en
                exact se_blt (sum_ok o.K o.cm) (o.nm.glo hg) hm boot_sum pa (by decide) hd (star_cons hs.1) (star_any hs.2)
              · cases ep
            · split at q
              · rename_i p ep
                cases q
                unfold btyP at ep
                split at ep
                · rename_i en; cases ep; have en := str_eq en; subst en
                  exact se_bty int_ok (o.nm.glo hg) hm PyProof.Rows.boot_int pa (by decide) hd (star_cons hs.1) (star_any hs.2)
                split at ep
                · rename_i en; cases ep; have en := str_eq en; subst en
                  exact se_bty (tuple_ok o.K) (o.nm.glo hg) hm PyProof.Rows.boot_tuple pa (by decide) hd (star_cons hs.1) (star_any hs.2)
                split at ep
                · rename_i en; cases ep; have en := str_eq en; subst en
                  exact se_bty (list_ok o.K) (o.nm.glo hg) hm PyProof.Rows.boot_list pa (by decide) hd (star_cons hs.1) (star_any hs.2)
                split at ep
                · rename_i en; cases ep; have en := str_eq en; subst en
                  exact se_bty (dict_ok o.wd o.K o.cm) (o.nm.glo hg) hm PyProof.Rows.boot_dict pa (by decide) hd (star_cons hs.1) (star_any hs.2)
                split at ep
                · rename_i en; cases ep; have en := str_eq en; subst en
                  exact se_bty str_ok (o.nm.glo hg) hm PyProof.Rows.boot_str pa (by decide) hd (star_cons hs.1) (star_any hs.2)
                · cases ep
              · cases q
          · cases q
        · cases q
      · cases q
theorem mthP_ok (o : OkX Γ T rt W X) {m : Str} {al : Alts} (em : mthP m = some al) : ∀ q ∈ al, AltOk T X m q.1 q.2 := by
  have one : ∀ {t : MV → MH → Bool} {p : PM}, AltOk T X m t p → ∀ q ∈ [(t, p)], AltOk T X m q.1 q.2 := fun h q hq => by
    rw [List.mem_singleton] at hq
    subst hq
    exact h
  unfold mthP at em
  split at em
  · rename_i en; cases em; have en := str_eq en; subst en
    exact one (alt_lst o.K PySem.F.slot_list_append PySem.F.type_list_append append_ok)
  split at em
  · rename_i en; cases em; have en := str_eq en; subst en
    exact one (alt_str PySem.F.slot_str_split PySem.F.type_str_split split_ok)
  split at em
  · rename_i en; cases em; have en := str_eq en; subst en
    exact one (alt_str PySem.F.slot_str_find PySem.F.type_str_find find_ok)
  split at em
  · rename_i en; cases em; have en := str_eq en; subst en
    exact one (alt_lst o.K PySem.F.slot_list_extend PySem.F.type_list_extend (extend_ok o.K))
  split at em
  · rename_i en; cases em; have en := str_eq en; subst en
    exact one (alt_lst o.K PySem.F.slot_list_pop PySem.F.type_list_pop pop_ok0)
  split at em
  · rename_i en; cases em; have en := str_eq en; subst en
    exact one (alt_dct o.wd PySem.F.slot_dict_get PySem.F.type_dict_get (getD_ok o.wd))
  split at em
  · rename_i en; cases em; have en := str_eq en; subst en
    exact one (alt_dct o.wd PySem.F.slot_dict_setdefault PySem.F.type_dict_setdefault setDf_ok)
  · cases em
theorem cMeth_ok (o : OkX Γ T rt W X) (h : ∀ e d, f e = some d → PE X e (TEof T W rt d)) {ob : Expr} {m : Str} {apos pos : Pos} {es : List Expr} {d : DE} (q : cMeth f ob m apos pos es = some d) : PE X (.Call (.Attribute ob m apos) es [] pos) (TEof T W rt d) := by
  unfold cMeth at q
  split at q
  · rename_i hc
    have h1 := Bool.and_eq_true_iff.mp hc
    have h2 := Bool.and_eq_true_iff.mp h1.2
    have h3 := Bool.and_eq_true_iff.mp h2.2
    split at q
    · split at q
      · rename_i d0 al ed em
        cases q
        exact se_meth0 (mthP_ok o em) (h ob d0 ed) (base_ok h1.1) h2.1
      · cases q
    · rename_i e es'
      have hs := Bool.and_eq_true_iff.mp h3.1
      have hl : (e :: es').length + 1 ≤ 29 := Nat.le_of_ble_eq_true h3.2
      have few : ((backTo pos (starEach (e :: es') X.env)).all (fun x => !x.1) && (backToKw pos (keywordEach [] X.env)).all (fun x => x.1.isSome) && decide ((e :: es').length + ([] : List Keyword).length + (if ([] : List Keyword).isEmpty then 0 else 1) < 30)) = true := by
        rw [star_all h3.1, show (backToKw pos (keywordEach [] X.env)).all (fun x => x.1.isSome) = true from rfl, decide_eq_true (show (e :: es').length + ([] : List Keyword).length + (if ([] : List Keyword).isEmpty then 0 else 1) < 30 by simp only [List.length_nil, List.isEmpty_nil, if_true]; omega)]
        rfl
      split at q
      · rename_i d0 dl al ed ea em
        cases q
        exact se_methA (mthP_ok o em) (h ob d0 ed) (cAf_ok h ea) (base_ok h1.1) few h2.1 (star_cons hs.1) (star_any hs.2)
      · cases q
  · cases q
theorem cPf_ok (h : ∀ e d, f e = some d → PE X e (TEof T W rt d)) {pos : Pos} : ∀ {ks : List (Option Expr)} {vs : List Expr} {t : DP}, cPf f ks vs = some t → ks.all (·.isSome) = true ∧ ks.length = vs.length ∧ ∃ trs, PPs X pos ks vs trs ∧ ∀ σ H Q, Tof T (RPs T) W rt t σ H Q → tPairs trs σ H Q
  | [], [], t, q => by cases q; exact ⟨rfl, rfl, [], pps_nil, fun σ H Q h => tp_nil h⟩
  | [], _ :: _, t, q => by cases q
  | some k :: ks, [], t, q => by cases q
  | some k :: ks, v :: vs, t, q => by
    unfold cPf at q
    split at q
    · rename_i dk dv t' ek ev et
      cases q
      obtain ⟨h1, h2, trs, h3, h4⟩ := cPf_ok h (pos := pos) et
      exact ⟨by rw [List.all_cons, h1]; rfl, by rw [List.length_cons, List.length_cons, h2], _, pps_cons (h k dk ek) (h v dv ev) h3, fun σ H Q hq => tp_cons h4 hq⟩
    · cases q
  | none :: ks, [], t, q => by cases q
  | none :: ks, v :: vs, t, q => by cases q
theorem cDict_ok (h : ∀ e d, f e = some d → PE X e (TEof T W rt d)) {pos : Pos} {ks : List (Option Expr)} {vs : List Expr} {d : DE} (q : cDict f ks vs = some d) : PE X (.Dict ks vs pos) (TEof T W rt d) := by
  unfold cDict at q
  split at q
  · cases q; exact se_dnew
  · rename_i k ks' vs'
    split at q
    · rename_i hl
      split at q
      · rename_i t et
        cases q
        obtain ⟨h1, h2, trs, h3, h4⟩ := cPf_ok h (pos := pos) et
        exact se_disp h3 h4 h1 h2 (by simp) (Nat.le_of_ble_eq_true hl)
      · cases q
    · cases q
  · cases q
theorem cSet_ok (o : OkX Γ T rt W X) (h : ∀ e d, f e = some d → PE X e (TEof T W rt d)) {x : Str} {px pos : Pos} {es : List Expr} {kws : List Keyword} {d : DE} (q : cSet Γ f x es kws = some d) : PE X (.Call (.Name x px) es kws pos) (TEof T W rt d) := by
  unfold cSet at q
  split at q
  · rename_i y py a p2
    split at q
    · rename_i hc
      have h1 := Bool.and_eq_true_iff.mp hc
      have h2 := Bool.and_eq_true_iff.mp h1.2
      have h3 := Bool.and_eq_true_iff.mp h2.2
      have h4 := Bool.and_eq_true_iff.mp h3.2
      have h5 := Bool.and_eq_true_iff.mp h4.2
      have ey := str_eq h1.1
      subst ey
      split at q
      · rename_i d0 ed
        split at q
        · rename_i en; cases q; have en := str_eq en; subst en
          exact se_lenSet o.K o.cm (o.nm.glo h2.1) (o.bn _ h4.1) (o.nm.glo h3.1) (o.bn _ h5.1) (h a d0 ed) (star_cons h5.2)
        · split at q
          · rename_i en; cases q; have en := str_eq en; subst en
            exact se_srtSet o.K o.cm (o.nm.glo h2.1) (o.bn _ h4.1) (o.nm.glo h3.1) (o.bn _ h5.1) (h a d0 ed) (star_cons h5.2)
          · cases q
      · cases q
    · cases q
  · cases q
theorem st_if {c a b : Expr} {pos : Pos} {dc da db : DB} (hc : PT X c (TTof T W rt dc)) (ha : PT X a (TTof T W rt da)) (hb : PT X b (TTof T W rt db)) : PT X (.IfExp c a b pos) (TTof T W rt (ifB dc da db)) := by
  refine ⟨fun pins s σ H Q I ⟨ρ, env, mh, rh, rs, w⟩ => ?_⟩
  refine PyProof.Rows.isTrue_IfExp (thn (hc.run pins s σ H _ I (Want.bind (rel := fun _ _ a b => a = b) rh rs w)) fun k s1 ⟨H1, I1, ρ1, mh1, k', e1, rh1, rs1, ra, w1⟩ => ?_)
  subst ra
  cases k' with
  | true => exact ha.run pins s1 σ H1 Q I1 ⟨ρ1, env, mh1, rh1, rs1, w1⟩
  | false => exact hb.run pins s1 σ H1 Q I1 ⟨ρ1, env, mh1, rh1, rs1, w1⟩
end
end Vf
end L2
end
section
/-! VM: the expressions, joined. -/
namespace L2
namespace Vf
open PySem PySem.Spec PyProof.Rows
section
variable {Γ : Gm} {T : Tx} {rt : Rt} {W : WX} {X : Cx}
theorem cName_ok (o : OkX Γ T rt W X) {x : Str} {pos : Pos} {d : DE} (q : cName Γ x = some d) : PE X (.Name x pos) (TEof T W rt d) := by
  unfold cName at q
  split at q
  · cases q
  · rename_i hc
    have hc : (x == dbg || x == cld) = false := Bool.eq_false_iff.mpr hc
    have h1 := Bool.or_eq_false_iff.mp hc
    split at q
    · rename_i hv
      split at q
      · rename_i i ei
        cases q
        exact se_var o.nm (ix0 ei) hv h1.1 h1.2
      · cases q
    · split at q
      · rename_i hg
        split at q
        · rename_i m em
          cases q
          obtain ⟨v, u, hm, r, rv⟩ := o.gl x m em
          exact se_con (pe_glob (o.nm.glo hg) hm r h1.1) rv
        · split at q
          · rename_i hb
            split at q
            · rename_i n en
              cases q
              have hm := o.bn x hb
              unfold tyIx at en
              split at en
              · rename_i e; cases en; have e := str_eq e; subst e
                exact se_ty (o.nm.glo hg) hm PyProof.Rows.boot_bool (by decide) h1.1
              split at en
              · rename_i e; cases en; have e := str_eq e; subst e
                exact se_ty (o.nm.glo hg) hm PyProof.Rows.boot_int (by decide) h1.1
              split at en
              · rename_i e; cases en; have e := str_eq e; subst e
                exact se_ty (o.nm.glo hg) hm PyProof.Rows.boot_str (by decide) h1.1
              split at en
              · rename_i e; cases en; have e := str_eq e; subst e
                exact se_ty (o.nm.glo hg) hm PyProof.Rows.boot_list (by decide) h1.1
              split at en
              · rename_i e; cases en; have e := str_eq e; subst e
                exact se_ty (o.nm.glo hg) hm PyProof.Rows.boot_tuple (by decide) h1.1
              split at en
              · rename_i e; cases en; have e := str_eq e; subst e
                exact se_ty (o.nm.glo hg) hm PyProof.Rows.boot_dict (by decide) h1.1
              · cases en
            · cases q
          · cases q
      · cases q
theorem binP_ok (o : OkX Γ T rt W X) {op : Operator} {p : P2} (q : binP op = some p) : OpR X (binaryOp op) (R2of T p) := by
  cases op <;> cases q
  · exact add_ok o.K
  · exact sub_ok
  · exact mul_ok
  · exact mod_ok
  · exact pow_ok
  · exact fdiv_ok
theorem cmpP_ok (o : OkX Γ T rt W X) {op : CmpOp} {p : P2} (q : cmpP op = some p) : OpR X (compareOp op) (R2of T p) := by
  have hu := o.un
  cases op <;> cases q
  · exact eq_ok o.K (by omega)
  · exact ne_ok o.K (by omega)
  · exact lt_ok
  · exact le_ok
  · exact gt_ok
  · exact ge_ok
  · exact is_ok
  · exact isnot_ok
  · exact in_ok o.wd o.K (by omega)
  · exact notin_ok o.wd o.K (by omega)
theorem st_cmp {op : CmpOp} {p : P2} {a b : Expr} {pos : Pos} {da db : DE} (ho : OpR X (compareOp op) (R2of T p)) (ha : PE X a (TEof T W rt da)) (hb : PE X b (TEof T W rt db)) (h1 : behindInMarks op b = false) : PT X (.Compare a [op] [b] pos) (TTof T W rt (boolD (op2D p da db))) :=
  (pt_cmpR ho ha hb h1).imp fun σ H Q ⟨ρ, env, mh, rh, rs, w⟩ => by
    have w' : Want T (fun _ _ a b => a = b) ρ H (fun c dd H' => W c dd σ H') (bnd (op2D p da db) (fun v _ _ mh => match v with
      | .bl b => Rs.ok b mh
      | _ => .stuck) rt env mh) Q := w
    have := (Want.bind (rel := RV T) rh rs w')
    obtain ⟨ρ0, env0, mh0, rh0, rs0, w0⟩ := this
    refine (Want.bind rh0 rs0 w0).mono fun x H1 ⟨ρ1, mh1, a, e1, rh1, rs1, ra, w1⟩ => (Want.bind rh1 rs1 w1).mono fun y H2 ⟨ρ2, mh2, b, e2, rh2, rs2, rb, w2⟩ => ?_
    obtain ⟨m, mh3, hp, k⟩ := lft_want w2
    refine ⟨ρ2, a, b, mh2, m, mh3, rh2, ra.mono e2, rb, hp, fun v ρ' H' e r rv => ?_⟩
    obtain ⟨ρ3, mh4, a3, x3, rh3, _, r3, w3⟩ := k v ρ' H' e r rv
    cases a3 <;> first | exact w3.elim | skip
    rename_i bb
    unfold RV at r3
    exact ⟨bb, r3, w3 bb ρ3 H' .refl rh3 rfl⟩
theorem okx_blk (o : OkX Γ T rt W X) (s : Shared) (H : Hp) (scope : Scope) (C : Addr) (cl : List (Str × Addr)) (fp : List Addr) : OkX { Γ with nm := scope.names } T rt NoX (X.blk s H scope (compEnvC scope cl C X.env) fp) :=
  ⟨o.K, nm_blk o.nm s H scope C cl fp, o.cm, o.gd, o.un, takes0, o.gl, o.bn, fun x q h => ⟨(o.fs x q h).ex⟩, o.wd⟩
theorem plainIx_of {b : Expr} (h : ∀ lo hi st p, b = .Slice lo hi st p → False) : PlainIx b := by
  cases b <;> first | (intro o i; rfl) | exact (h _ _ _ _ rfl).elim
theorem ownOf_mem {N : List Str} : ∀ {l : List (Str × NameKind)} {p : Str × Nat}, p ∈ ownOf N l → True := fun _ => trivial
theorem stepE_ok {ce : CE} {ct : CT} (he : SoE ce) (ht : SoT ct) : SoE (stepE ce ct) := by
  intro Γ e d q T rt W X o
  have h : ∀ e d, ce Γ e = some d → PE X e (TEof T W rt d) := fun e d q => he Γ e d q T rt W X o
  have h' : ∀ e d, ct Γ e = some d → PT X e (TTof T W rt d) := fun e d q => ht Γ e d q T rt W X o
  unfold stepE at q
  split at q
  · exact cName_ok o q
  · split at q <;> cases q
    · exact se_int
    · exact se_bl
    · exact se_non
    · exact se_str
  · split at q
    · rename_i p da db ep ea eb
      cases q
      exact se_op2 (binP_ok o ep) (h _ _ ea) (h _ _ eb)
    · cases q
  · split at q
    · rename_i d0 ed
      cases q
      exact se_un neg_ok (h _ _ ed)
    · rename_i d0 ed
      cases q
      exact se_not (h _ _ ed)
    · cases q
  · split at q
    · exact cBoV_and h q
    · exact cBoV_or h q
  · split at q
    · split at q
      · rename_i hn
        split at q
        · rename_i p da db ep ea eb
          cases q
          exact se_cmp (cmpP_ok o ep) (h _ _ ea) (h _ _ eb) (marks_ok hn)
        · cases q
      · cases q
    · split at q
      · rename_i hn
        split at q
        · rename_i p p' da db dc ep ep' ea eb ec
          cases q
          exact se_chain (cmpP_ok o ep) (cmpP_ok o ep') (h _ _ ea) (h _ _ eb) (h _ _ ec) (marks_ok hn)
        · cases q
      · cases q
    · cases q
  · split at q
    · rename_i dc da db ec ea eb
      cases q
      exact se_if (h' _ _ ec) (h _ _ ea) (h _ _ eb)
    · cases q
  · split at q
    · rename_i dl ed
      cases q
      exact se_tup (cAf_ok h ed)
    · cases q
  · split at q
    · rename_i dl ed
      cases q
      exact se_lst (cAf_ok h ed)
    · cases q
  · split at q
    · split at q
      · rename_i d0 l0 h0 ed el eh
        cases q
        exact se_slice o.K (h _ _ ed) (cOf_ok h el) (cOf_ok h eh)
      · cases q
    · rename_i b hb
      split at q
      · rename_i da db ea eb
        cases q
        exact se_ix (ix_ok o.wd o.K) (h _ _ ea) (h _ _ eb) (plainIx_of hb)
      · cases q
  · split at q
    · split at q
      · rename_i es
        cases q
        exact cSet_ok o h es
      · exact cCall_ok o h q
    · split at q
      · exact cMeth_ok o h q
      · cases q
    · cases q
  · exact cDict_ok h q
  · rename_i elt gs scope pos
    split at q
    · rename_i tg it ifs a
      split at q
      · rename_i ha
        have ha : a = 0 := eq_of_beq ha
        subst ha
        dsimp only at q
        split at q
        · rename_i hb
          have hb := Bool.and_eq_true_iff.mp hb
          split at q
          · rename_i di dg de dt ei eg ee et
            cases q
            have ob := okx_blk o
            have base := pe_lc (X := X) (pos := pos) (ifs := ifs) (elt := elt) (own := ownOf Γ.N scope.names) o.cm (by rw [o.nm.N_]; exact o.nm.nd) (cIf_ok (tg := tg) o h ei) (blkS_ok o.nm hb.1)
              (fun s H C cl fp => cGt_ok (Γ := { Γ with nm := scope.names }) (T := T) (rt := rt) (P := OwnP ((ownOf Γ.N scope.names).map (·.2))) (ob s H scope C cl fp).K (ob s H scope C cl fp).cm (ob s H scope C cl fp).nm (fun i σ v hi => wipe_set σ _ (by simpa using hi)) (fun σ => rfl) (fun a b c h1 h2 => h2.trans h1) eg)
              (tt := TTof T NoX rt dt) (fun s H C cl fp => (by
                have o2 := ob s H scope C cl fp
                split at et
                · cases et; exact sts_nil
                · exact sts_one (ht _ _ _ et T rt NoX _ o2)
                · cases et))
              (fun s H C cl fp => he _ _ _ ee T rt NoX _ (ob s H scope C cl fp))
              (folded_ok hb.2)
            exact base.imp fun σ H Q hq => lc_of hq
          · cases q
        · cases q
      · cases q
    · cases q
  · cases q
/-- a comprehension stored at a name of its line -/
def SoC (ce : CE) : Prop := ∀ Γ elt gs scope pos d, ce Γ (.ListComp elt gs scope pos) = some d → ∀ T rt W X, OkX Γ T rt W X → ∀ (i : Nat) (y : Str) (py spos : Pos), Γ.N[i]? = some y → Γ.nm.lookup y = some .local →
  (py.line == pos.line) = true → (scope.names.any fun (n, k) => n == y && (k == .local || k == .cell)) = false → PS X (.Assign [.Name y py] (.ListComp elt gs scope pos) spos) (TSof T W rt (setS i d))
theorem stepE_sc {ce : CE} {ct : CT} (he : SoE ce) (ht : SoT ct) : SoC (stepE ce ct) := by
  intro Γ elt gs scope pos d q T rt W X o i y py spos hi hy hl ha
  have h : ∀ e d, ce Γ e = some d → PE X e (TEof T W rt d) := fun e d q => he Γ e d q T rt W X o
  unfold stepE at q
  dsimp only at q
  split at q
  · rename_i tg it ifs a
    split at q
    · rename_i hz
      have hz : a = 0 := eq_of_beq hz
      subst hz
      split at q
      · rename_i hb
        have hb := Bool.and_eq_true_iff.mp hb
        split at q
        · rename_i di dg de dt ei eg ee et
          cases q
          have ob := okx_blk o
          refine ⟨fun pins s σ H D I hD => ?_⟩
          have base := ps_setLc (X := X) (pos := pos) (ifs := ifs) (elt := elt) (py := py) (spos := spos) (own := ownOf Γ.N scope.names) o.cm (by rw [o.nm.N_]; exact o.nm.nd) (by rw [o.nm.N_]; exact hi) (o.nm.lo y hy) (sw_true I.ok.kind (o.nm.lo y hy) hl ha)
            (cIf_ok (tg := tg) o h ei) (blkS_ok o.nm hb.1)
            (fun s H C cl fp => cGt_ok (Γ := { Γ with nm := scope.names }) (T := T) (rt := rt) (P := OwnP ((ownOf Γ.N scope.names).map (·.2))) (ob s H scope C cl fp).K (ob s H scope C cl fp).cm (ob s H scope C cl fp).nm (fun i σ v hi => wipe_set σ _ (by simpa using hi)) (fun σ => rfl) (fun a b c h1 h2 => h2.trans h1) eg)
            (tt := TTof T NoX rt dt) (fun s H C cl fp => (by
              have o2 := ob s H scope C cl fp
              split at et
              · cases et; exact sts_nil
              · exact sts_one (ht _ _ _ et T rt NoX _ o2)
              · cases et))
            (fun s H C cl fp => he _ _ _ ee T rt NoX _ (ob s H scope C cl fp))
            (folded_ok hb.2)
          refine base.run pins s σ H D I ?_
          obtain ⟨ρ, env, mh, rh, rs, w⟩ := hD
          exact lc_of ((WantS.bind rh rs w).mono fun x H1 ⟨ρ1, mh1, a, e1, rh1, rs1, ra, w1⟩ => w1 _ ρ1 H1 .refl rh1 (rs1.set i ra))
        · cases q
      · cases q
    · cases q
  · cases q
theorem stepT_ok {ce : CE} {ct : CT} (he : SoE ce) (ht : SoT ct) : SoT (stepT ce ct) := by
  intro Γ e d q T rt W X o
  have h : ∀ e d, ce Γ e = some d → PE X e (TEof T W rt d) := fun e d q => he Γ e d q T rt W X o
  have h' : ∀ e d, ct Γ e = some d → PT X e (TTof T W rt d) := fun e d q => ht Γ e d q T rt W X o
  unfold stepT at q
  split at q
  · split at q
    · exact (cBoT_and h' q).pt
    · exact (cBoT_or h' q).pt
  · split at q
    · rename_i d0 ed
      cases q
      exact st_not (h' _ _ ed)
    · cases q
  · split at q
    · split at q
      · rename_i hn
        split at q
        · rename_i p da db ep ea eb
          cases q
          exact st_cmp (cmpP_ok o ep) (h _ _ ea) (h _ _ eb) (marks_ok hn)
        · cases q
      · cases q
    · split at q
      · rename_i hn
        split at q
        · rename_i p p' da db dc ep ep' ea eb ec
          cases q
          exact st_chain (cmpP_ok o ep) (cmpP_ok o ep') (h _ _ ea) (h _ _ eb) (h _ _ ec) (marks_ok hn)
        · cases q
      · cases q
    · cases q
  · split at q
    · rename_i dc da db ec ea eb
      cases q
      exact st_if (h' _ _ ec) (h' _ _ ea) (h' _ _ eb)
    · cases q
  · split at q
    · rename_i hp
      split at q
      · rename_i d0 ed
        cases q
        exact st_tru o.K (h _ _ ed) (plainT_ok hp)
      · cases q
    · cases q
theorem c_ok : ∀ n, SoE (cE n) ∧ SoT (cT n)
  | 0 => ⟨fun Γ e d q => (by unfold cE at q; cases q), fun Γ e d q => (by unfold cT at q; cases q)⟩
  | n + 1 => by
    obtain ⟨h1, h2⟩ := c_ok n
    refine ⟨?_, ?_⟩
    · unfold cE; exact stepE_ok h1 h2
    · unfold cT; exact stepT_ok h1 h2
theorem c_sc : ∀ n, SoC (cE n)
  | 0 => fun Γ elt gs sc pos d q => (by unfold cE at q; cases q)
  | n + 1 => by
    obtain ⟨h1, h2⟩ := c_ok n
    unfold cE; exact stepE_sc h1 h2
end
end Vf
end L2
end
section
/-! VN: statements, compiled. -/
namespace L2
namespace Vf
open PySem PySem.Spec PyProof.Rows
structure OkS (Γ : Gm) (T : Tx) (rt : Rt) (W : WX) (X : Cx) : Prop extends OkX Γ T rt W X where
  po : PassesOwn (model X.prog X.w) X.A X.env X.xe
def isLo (nm : List (Str × NameKind)) (x : Str) : Bool := match nm.lookup x with
  | some .local => true
  | _ => false
theorem isLo_ok {nm : List (Str × NameKind)} {x : Str} (h : isLo nm x = true) : nm.lookup x = some .local := by
  unfold isLo at h
  split at h
  · assumption
  · cases h
/-- targets of statements: names, places -/
def cGn2 (Γ : Gm) (f : Expr → Option DE) : Expr → Option DG
  | .Subscript o i _ => match f o, f i with
    | some a, some b => if notSlice i then some (subG a b) else none
    | _, _ => none
  | e => cGn Γ (fun _ => true) e
def cGns2 (Γ : Gm) (f : Expr → Option DE) : List Expr → Option DGs
  | [] => some nilG
  | e :: es => match cGn2 Γ f e, cGns2 Γ f es with
    | some g, some t => some (consG g t)
    | _, _ => none
def cGt2 (Γ : Gm) (f : Expr → Option DE) : Expr → Option DG
  | .Tuple es _ _ => match cGns2 Γ f es with
    | some t => some (tupG es.length t)
    | none => none
  | e => cGn2 Γ f e
def notTup : Expr → Bool
  | .Tuple _ _ _ => false
  | _ => true
def par2Ok (nm : List (Str × NameKind)) (x y : Str) (px py : Pos) (a b : Expr) : Bool :=
  isLo nm x && (isLo nm y && (px.line == py.line && (!(x == y) && (notStars [a, b] && (!([a, b].all (foldedForSure 8)) && !([a, b].all (constantsAlone 8)))))))
def par3Ok (nm : List (Str × NameKind)) (x y z : Str) (px py pz : Pos) (a b c : Expr) : Bool :=
  isLo nm x && (isLo nm y && (isLo nm z && (px.line == py.line && (px.line == pz.line && (!(x == y) && (!(x == z) && (!(y == z) && (notStars [a, b, c] && (!([a, b, c].all (foldedForSure 8)) && !([a, b, c].all (constantsAlone 8)))))))))))
/-- no exchange of stores: another number of targets, or constants alone -/
def offLoc (nm : List (Str × NameKind)) : Expr → Bool
  | .Name x _ => (match nm.lookup x with
    | some .cell => true
    | _ => false)
  | .Subscript _ _ _ => true
  | _ => false
def par0Ok (nm : List (Str × NameKind)) (ts vs : List Expr) : Bool := ts.any (offLoc nm) ||
  (!(ts.length == 2 || ts.length == 3) || (notStars vs && vs.all (foldedForSure 8)))
def cAsg (Γ : Gm) (ce : CE) (t v : Expr) : Option DS := match t with
  | .Name x p => if isLoc Γ.nm x then (match ixOf Γ.N x 0, ce Γ v with
    | some i, some d => (match v with
      | .ListComp _ _ sc vp => if isLo Γ.nm x && (p.line == vp.line && !(sc.names.any fun (n, k) => n == x && (k == .local || k == .cell))) then some (setS i d) else none
      | v => if notComp v then some (setS i d) else none)
    | _, _ => none) else none
  | .Tuple ts _ _ => (match v with
    | .Tuple vs _ _ => (match ts, vs with
      | [.Name x px, .Name y py], [a, b] => if par2Ok Γ.nm x y px py a b then (match ixOf Γ.N x 0, ixOf Γ.N y 0, cAf (ce Γ) [a, b] with
          | some i, some j, some dl => some (par2S i j dl)
          | _, _, _ => none)
        else if par0Ok Γ.nm [.Name x px, .Name y py] [a, b] then (match ce Γ v, cGt2 Γ (ce Γ) t with
          | some d, some g => some (asgS d g)
          | _, _ => none) else none
      | [.Name x px, .Name y py, .Name z pz], [a, b, c] => if par3Ok Γ.nm x y z px py pz a b c then (match ixOf Γ.N x 0, ixOf Γ.N y 0, ixOf Γ.N z 0, cAf (ce Γ) [a, b, c] with
          | some i, some j, some l, some dl => some (par3S i j l dl)
          | _, _, _, _ => none)
        else if par0Ok Γ.nm [.Name x px, .Name y py, .Name z pz] [a, b, c] then (match ce Γ v, cGt2 Γ (ce Γ) t with
          | some d, some g => some (asgS d g)
          | _, _ => none) else none
      | ts, vs => if par0Ok Γ.nm ts vs then (match ce Γ v, cGt2 Γ (ce Γ) t with
          | some d, some g => some (asgS d g)
          | _, _ => none) else none)
    | v => (match ce Γ v, cGt2 Γ (ce Γ) t with
      | some d, some g => some (asgS d g)
      | _, _ => none))
  | .Subscript _ _ _ => (match ce Γ v, cGt2 Γ (ce Γ) t with
    | some d, some g => some (asgS d g)
    | _, _ => none)
  | _ => none
abbrev CS := Gm → Stmt → Option DS
def cSs (f : Stmt → Option DS) : List Stmt → Option DS
  | [] => some passS
  | s :: r => match f s, cSs f r with
    | some a, some b => some (seqS a b)
    | _, _ => none
def stepS (ce : CE) (ct : CT) (cs : CS) (Γ : Gm) (st : Stmt) : Option DS := match st with
  | .Expr e _ => if notComp e then (match ce Γ e with
    | some d => some (exprS d)
    | none => none) else none
  | .Return v _ => (match v with
    | some e => (match ce Γ e with
      | some d => some (retS d)
      | none => none)
    | none => some retNS)
  | .Pass _ => some passS
  | .Break _ => some brkS
  | .Continue _ => some ctS
  | .If c a b _ => (match ct Γ c, cSs (cs Γ) a, cSs (cs Γ) b with
    | some dc, some da, some db => some (ifS dc da db)
    | _, _, _ => none)
  | .While c b o _ => (match o, ct Γ c, cSs (cs Γ) b with
    | [], some dc, some db => some (whileS dc db)
    | _, _, _ => none)
  | .For tg it b o _ => if notSet it then (match o, cIf Γ (ce Γ) (isTup tg) it, cGt Γ (fun _ => true) tg, cSs (cs Γ) b with
    | [], some di, some dg, some db => some (forS di dg db)
    | _, _, _, _ => none) else none
  | .Assign ts v _ => (match ts with
    | [t] => cAsg Γ ce t v
    | _ => none)
  | .Raise _ _ _ => some stuckS
  | _ => none
def cS (ce : CE) (ct : CT) : Nat → CS
  | 0 => fun _ _ => none
  | n + 1 => stepS ce ct (cS ce ct n)
section
variable {Γ : Gm} {T : Tx} {rt : Rt} {W : WX} {X : Cx} {f : Expr → Option DE} {pos : Pos}
theorem nx_name (i : Nat) : ∀ rt v env mh, (∃ e h, nameG i rt v env mh = .nx e h) ∨ nameG i rt v env mh = .stuck := fun _ _ _ _ => .inl ⟨_, _, rfl⟩
theorem nx_sub (a b : DE) : ∀ rt v env mh, (∃ e h, subG a b rt v env mh = .nx e h) ∨ subG a b rt v env mh = .stuck := fun rt v env mh => by
  unfold subG
  split
  · split
    · split
      · exact .inl ⟨_, _, rfl⟩
      · exact .inr rfl
    · exact .inr rfl
  · exact .inr rfl
def NxG (g : DG) : Prop := ∀ rt v env mh, (∃ e h, g rt v env mh = .nx e h) ∨ g rt v env mh = .stuck
def NxGs (g : DGs) : Prop := ∀ rt v env mh, (∃ e h, g rt v env mh = .nx e h) ∨ g rt v env mh = .stuck
theorem nx_nil : NxGs nilG := fun rt v env mh => by
  unfold nilG
  split
  · exact .inl ⟨_, _, rfl⟩
  · exact .inr rfl
theorem nx_cons {g : DG} {t : DGs} (h1 : NxG g) (h2 : NxGs t) : NxGs (consG g t) := fun rt v env mh => by
  unfold consG
  split
  · exact .inr rfl
  · rename_i v r
    rcases h1 rt v env mh with ⟨e, h, q⟩ | q
    · rw [q]; exact h2 rt r e h
    · rw [q]; exact .inr rfl
theorem nx_tup {n : Nat} {t : DGs} (h : NxGs t) : NxG (tupG n t) := fun rt v env mh => by
  unfold tupG
  split
  · split
    · exact h rt _ env mh
    · exact .inr rfl
  · split
    · exact h rt _ env mh
    · exact .inr rfl
  · split
    · split
      · exact h rt _ env mh
      · exact .inr rfl
    · exact .inr rfl
  · exact .inr rfl
theorem cGn_nx {ok : Nat → Bool} {e : Expr} {g : DG} (q : cGn Γ ok e = some g) : NxG g := by
  unfold cGn at q
  split at q
  · split at q
    · split at q
      · split at q
        · cases q; exact nx_name _
        · cases q
      · cases q
    · cases q
  · cases q
theorem asgSub {o i : Expr} {pos : Pos} {env : Env} (h : notSlice i = true) : ∀ v, assign (.Subscript o i pos) env v = (do
      let ov ← holding [v] (eval o env)
      let iv ← holding [v, ov] (eval i env)
      standAt pos
      holding [v, ov, iv] (setItem ov iv v)
      release [v, ov, iv] []) := by
  cases i <;> first | (intro v; rfl) | cases h
theorem cGn2_ok (o : OkX Γ T rt W X) (h : ∀ e d, f e = some d → PE X e (TEof T W rt d)) {tg : Expr} {d : DG} (q : cGn2 Γ f tg = some d) : PG X tg (TGof T AnyP rt d) ∧ notStar tg = true ∧ NxG d := by
  unfold cGn2 at q
  split at q
  · split at q
    · rename_i ea eb
      split at q
      · rename_i hs
        cases q
        exact ⟨sg_sub (by have hu := o.un; omega) (fun _ => trivial) (h _ _ ea) (h _ _ eb) (asgSub hs), rfl, nx_sub _ _⟩
      · cases q
    · cases q
  · obtain ⟨h1, h2⟩ := cGn_ok (T := T) (rt := rt) (P := AnyP) o.nm (fun _ _ _ _ => trivial) q
    exact ⟨h1, h2, cGn_nx q⟩
theorem cGns2_ok (o : OkX Γ T rt W X) (h : ∀ e d, f e = some d → PE X e (TEof T W rt d)) : ∀ {es : List Expr} {d : DGs}, cGns2 Γ f es = some d → PGs X es (TGsof T AnyP rt d) ∧ notStars es = true ∧ NxGs d
  | [], d, q => by cases q; exact ⟨sgs_nil (fun _ => trivial), rfl, nx_nil⟩
  | e :: es, d, q => by
    unfold cGns2 at q
    split at q
    · rename_i g1 t1 eg et
      cases q
      obtain ⟨p1, s1, n1⟩ := cGn2_ok o h eg
      obtain ⟨p2, s2, n2⟩ := cGns2_ok o h et
      exact ⟨sgs_cons (fun _ _ _ _ _ => trivial) p1 p2 (ae_cons s1), by unfold notStars; rw [s1, s2]; rfl, nx_cons n1 n2⟩
    · cases q
theorem cGt2_ok (o : OkX Γ T rt W X) (h : ∀ e d, f e = some d → PE X e (TEof T W rt d)) {tg : Expr} {d : DG} (q : cGt2 Γ f tg = some d) : PG X tg (TGof T AnyP rt d) ∧ notStar tg = true ∧ NxG d := by
  unfold cGt2 at q
  split at q
  · split at q
    · rename_i et
      cases q
      obtain ⟨p2, s2, n2⟩ := cGns2_ok o h et
      exact ⟨sg_tup o.K o.cm p2 (ae_len s2) (ae_star s2), rfl, nx_tup n2⟩
    · cases q
  · exact cGn2_ok o h q
theorem swapped_notTup {t v : Expr} {env : Env} (h : notTup v = true) : swappedStores [t] v env = pure none := by
  cases v <;> first
    | (cases h; done)
    | (cases t <;> rfl)
theorem swapped_name {x : Expr} {v : Expr} {env : Env} (h : ∀ ts k p, x = .Tuple ts k p → False) (h2 : ∀ ts p, x = .List ts p → False) : swappedStores [x] v env = pure none := by
  cases x <;> first
    | rfl
    | exact (h _ _ _ rfl).elim
    | exact (h2 _ _ rfl).elim
theorem filterMap_less {α β : Type} {f : α → Option β} : ∀ {l : List α}, (∃ a ∈ l, f a = none) → (l.filterMap f).length ≠ l.length
  | [], h => by obtain ⟨_, h, _⟩ := h; cases h
  | b :: l, h => by
    have hle := List.length_filterMap_le f l
    obtain ⟨a, ha, hn⟩ := h
    rcases List.mem_cons.mp ha with rfl | ha
    · rw [List.filterMap_cons, hn, List.length_cons]
      dsimp only
      omega
    · have ih := filterMap_less ⟨a, ha, hn⟩
      rw [List.filterMap_cons, List.length_cons]
      split
      · omega
      · rw [List.length_cons]; omega
theorem swapped_zero {ts vs : List Expr} {k k2 : Nat} {p p2 : Pos} (o : NmOk Γ.N Γ.nm X) (h : par0Ok Γ.nm ts vs = true) : swappedStores [.Tuple ts k p] (.Tuple vs k2 p2) X.env = pure none := by
  unfold par0Ok at h
  unfold swappedStores
  dsimp only
  split
  · rfl
  · rename_i hc
    split
    · rfl
    · split
      · rfl
      · rename_i h2
        rcases Bool.or_eq_true_iff.mp h with q | q
        · exfalso; apply h2
          obtain ⟨t, ht, q⟩ := List.any_eq_true.mp q
          refine Bool.or_eq_true_iff.mpr (.inl ?_)
          refine bne_iff_ne.mpr (filterMap_less ⟨t, ht, ?_⟩)
          cases t <;> first | (cases q; done) | skip
          · rfl
          · rename_i x px
            unfold offLoc at q
            dsimp only at q
            split at q
            · rename_i e
              have e : X.env.kindOf x = some .cell := o.ce x e
              dsimp only
              rw [e]; rfl
            · cases q
        · rcases Bool.or_eq_true_iff.mp q with q | q
          · exfalso; apply hc
            rw [q]; rfl
          · have q := (Bool.and_eq_true_iff.mp q).2
            rw [if_pos q]
theorem noStar_any {vs : List Expr} (h : notStars vs = true) : (vs.any fun x => match x with
    | .Starred _ _ => true
    | _ => false) = false := by
  induction vs with
  | nil => rfl
  | cons v vs ih =>
    have h := Bool.and_eq_true_iff.mp h
    rw [List.any_cons, ih h.2, Bool.or_false]
    cases v <;> first | rfl | cases h.1
theorem starNo : ∀ e : Expr, notStar e = true → ¬ ((match e with
    | .Starred _ _ => true
    | _ => false) = true) := fun e h => by cases e <;> first | exact Bool.false_ne_true | exact (Bool.false_ne_true h).elim
theorem swapped_par2 {x y : Str} {px py pt pt2 : Pos} {kt k2 : Nat} {a b : Expr} (o : NmOk Γ.N Γ.nm X) (hk : X.env.blockKind = .function) (h : par2Ok Γ.nm x y px py a b = true) : swappedStores [.Tuple [.Name x px, .Name y py] kt pt] (.Tuple [a, b] k2 pt2) X.env = pure (some [x, y]) ∧ x ≠ y := by
  unfold par2Ok at h
  have h0 := Bool.and_eq_true_iff.mp h
  have h1 := Bool.and_eq_true_iff.mp h0.2
  have h2 := Bool.and_eq_true_iff.mp h1.2
  have h3 := Bool.and_eq_true_iff.mp h2.2
  have h4 := Bool.and_eq_true_iff.mp h3.2
  have h5 := Bool.and_eq_true_iff.mp h4.2
  have kx : X.env.kindOf x = some .local := o.lo x (isLo_ok h0.1)
  have ky : X.env.kindOf y = some .local := o.lo y (isLo_ok h1.1)
  have hl : px.line = py.line := eq_of_beq h2.1
  have hxy : ¬ x = y := by simpa using h3.1
  have e5 : [a, b].all (foldedForSure 8) = false := by simpa only [Bool.not_eq_true'] using h5.1
  have e6 : [a, b].all (constantsAlone 8) = false := by simpa only [Bool.not_eq_true'] using h5.2
  refine ⟨?_, hxy⟩
  unfold swappedStores
  dsimp only
  have sa := Bool.and_eq_true_iff.mp h4.1
  have sb := Bool.and_eq_true_iff.mp sa.2
  have hyx : (y == x) = false := by simpa using Ne.symm hxy
  simp only [hk, kx, ky, hl, e5, e6]
  simp [List.filterMap_cons, List.filterMap_nil, kx, ky, List.eraseDups, List.eraseDupsBy, List.eraseDupsBy.loop, hxy, Ne.symm hxy, hl, Expr.pos]
  refine Eq.trans (if_neg (fun hc => Or.elim hc (starNo a sa.1) (starNo b sb.1))) ?_
  rw [hyx]; rfl
theorem swapped_par3 {x y z : Str} {px py pz pt pt2 : Pos} {kt k2 : Nat} {a b c : Expr} (o : NmOk Γ.N Γ.nm X) (hk : X.env.blockKind = .function) (h : par3Ok Γ.nm x y z px py pz a b c = true) :
    swappedStores [.Tuple [.Name x px, .Name y py, .Name z pz] kt pt] (.Tuple [a, b, c] k2 pt2) X.env = pure (some [x, y, z]) ∧ x ≠ y ∧ x ≠ z ∧ y ≠ z := by
  unfold par3Ok at h
  have h0 := Bool.and_eq_true_iff.mp h
  have h1 := Bool.and_eq_true_iff.mp h0.2
  have h2 := Bool.and_eq_true_iff.mp h1.2
  have h3 := Bool.and_eq_true_iff.mp h2.2
  have h4 := Bool.and_eq_true_iff.mp h3.2
  have h5 := Bool.and_eq_true_iff.mp h4.2
  have h6 := Bool.and_eq_true_iff.mp h5.2
  have h7 := Bool.and_eq_true_iff.mp h6.2
  have h8 := Bool.and_eq_true_iff.mp h7.2
  have h9 := Bool.and_eq_true_iff.mp h8.2
  have kx : X.env.kindOf x = some .local := o.lo x (isLo_ok h0.1)
  have ky : X.env.kindOf y = some .local := o.lo y (isLo_ok h1.1)
  have kz : X.env.kindOf z = some .local := o.lo z (isLo_ok h2.1)
  have hl : px.line = py.line := eq_of_beq h3.1
  have hl2 : px.line = pz.line := eq_of_beq h4.1
  have hl3 : pz.line = py.line := hl2.symm.trans hl
  have hxy : ¬ x = y := by simpa using h5.1
  have hxz : ¬ x = z := by simpa using h6.1
  have hyz : ¬ y = z := by simpa using h7.1
  have e5 : [a, b, c].all (foldedForSure 8) = false := by simpa only [Bool.not_eq_true'] using h9.1
  have e6 : [a, b, c].all (constantsAlone 8) = false := by simpa only [Bool.not_eq_true'] using h9.2
  refine ⟨?_, hxy, hxz, hyz⟩
  unfold swappedStores
  dsimp only
  have sa := Bool.and_eq_true_iff.mp h8.1
  have sb := Bool.and_eq_true_iff.mp sa.2
  have sc := Bool.and_eq_true_iff.mp sb.2
  have hyx : (y == x) = false := by simpa using Ne.symm hxy
  have hzx : (z == x) = false := by simpa using Ne.symm hxz
  have hzy : (z == y) = false := by simpa using Ne.symm hyz
  simp only [hk, kx, ky, kz, hl, hl3, e5, e6]
  simp [List.filterMap_cons, List.filterMap_nil, kx, ky, kz, List.eraseDups, List.eraseDupsBy, List.eraseDupsBy.loop, hxy, Ne.symm hxy, hl, hl3, Expr.pos]
  simp only [hyx, hzx, hzy, List.any]
  exact Eq.trans (if_neg (fun hc => Or.elim hc (starNo a sa.1) (fun hc => Or.elim hc (starNo b sb.1) (starNo c sc.1)))) rfl
theorem blkKind {pins : List (Addr × Obj)} {σ : L2.St} {H : Hp} {s : Shared} (I : Inv X pins σ H s) : X.env.blockKind = .function := by
  unfold Env.blockKind
  rw [I.ok.kind]
  rfl
theorem swaps_tup {ts : List Expr} {k : Nat} {p : Pos} {v : Expr} {l : Nat} {env : Env} : swapsWith v (some (.Tuple ts k p)) l env = pure false := by
  cases v <;> rfl
theorem swaps_sub {a b : Expr} {p : Pos} {v : Expr} {l : Nat} {env : Env} : swapsWith v (some (.Subscript a b p)) l env = pure false := by
  cases v <;> rfl
theorem asg_core (o : OkX Γ T rt W X) (h : ∀ e d, f e = some d → PE X e (TEof T W rt d)) {t v : Expr} {d : DE} {g : DG} (hv : PE X v (TEof T W rt d)) (hg : cGt2 Γ f t = some g) (hn : swapsWith v (some t) pos.line X.env = pure false) (hw : swappedStores [t] v X.env = pure none) : PS X (.Assign [t] v pos) (TSof T W rt (asgS d g)) := by
  obtain ⟨p1, s1, n1⟩ := cGt2_ok o h hg
  refine ss_asg hv p1 ?_ hw ?_ n1
  · show swapsWith v (some t) pos.line X.env = pure false
    exact hn
  · rw [ae_cons s1]; rfl
theorem cAsg_ok {ce : CE} (he : SoE ce) (hsc : SoC ce) (o : OkX Γ T rt W X) {t v : Expr} {d : DS} (q : cAsg Γ ce t v = some d) : PS X (.Assign [t] v pos) (TSof T W rt d) := by
  have h : ∀ e d, ce Γ e = some d → PE X e (TEof T W rt d) := fun e d q => he Γ e d q T rt W X o
  unfold cAsg at q
  split at q
  · rename_i x px
    split at q
    · rename_i hx
      split at q
      · rename_i i d0 ei ed
        split at q
        · rename_i elt gs sc vp
          split at q
          · rename_i hc
            cases q
            have hc1 := Bool.and_eq_true_iff.mp hc
            have hc2 := Bool.and_eq_true_iff.mp hc1.2
            exact hsc Γ elt gs sc vp _ ed T rt W X o i x px pos (ix0 ei) (isLo_ok hc1.1) hc2.1 (by simpa only [Bool.not_eq_true'] using hc2.2)
          · cases q
        · split at q
          · rename_i hn
            cases q
            exact ss_set o.nm (ix0 ei) hx (h _ _ ed) (swaps_ok hn)
          · cases q
      · cases q
    · cases q
  · rename_i ts kt pt
    split at q
    · rename_i vs kv pv
      split at q
      · rename_i x px y py a b
        split at q
        · rename_i hp
          split at q
          · rename_i i j dl ei ej ea
            cases q
            have hl : isLo Γ.nm x = true ∧ isLo Γ.nm y = true := by
              unfold par2Ok at hp
              have h0 := Bool.and_eq_true_iff.mp hp
              exact ⟨h0.1, (Bool.and_eq_true_iff.mp h0.2).1⟩
            refine ⟨fun pins s σ H D I hD => ?_⟩
            obtain ⟨hw, hne⟩ := swapped_par2 (pt := pt) (pt2 := pv) (kt := kt) (k2 := kv) o.nm (blkKind I) hp
            have hij : i ≠ j := fun z => by
              subst z
              have := (ix0 ei).symm.trans (ix0 ej)
              exact hne (Option.some.inj this)
            exact (ss_par2 o.cm o.nm (ix0 ei) (ix0 ej) hij (isLo_ok hl.1) (isLo_ok hl.2) (cAf_ok h ea) hw rfl).run pins s σ H D I hD
          · cases q
        · split at q
          · rename_i hp
            split at q
            · rename_i d0 g0 ed eg
              cases q
              exact asg_core o h (h _ _ ed) eg swaps_tup (swapped_zero o.nm hp)
            · cases q
          · cases q
      · rename_i x px y py z pz a b c
        split at q
        · rename_i hp
          split at q
          · rename_i i j l dl ei ej el ea
            cases q
            have hl : isLo Γ.nm x = true ∧ isLo Γ.nm y = true ∧ isLo Γ.nm z = true := by
              unfold par3Ok at hp
              have h0 := Bool.and_eq_true_iff.mp hp
              have h1 := Bool.and_eq_true_iff.mp h0.2
              exact ⟨h0.1, h1.1, (Bool.and_eq_true_iff.mp h1.2).1⟩
            refine ⟨fun pins s σ H D I hD => ?_⟩
            obtain ⟨hw, n1, n2, n3⟩ := swapped_par3 (pt := pt) (pt2 := pv) (kt := kt) (k2 := kv) o.nm (blkKind I) hp
            have hij : i ≠ j := fun w => by
              subst w
              exact n1 (Option.some.inj ((ix0 ei).symm.trans (ix0 ej)))
            have hil : i ≠ l := fun w => by
              subst w
              exact n2 (Option.some.inj ((ix0 ei).symm.trans (ix0 el)))
            have hjl : j ≠ l := fun w => by
              subst w
              exact n3 (Option.some.inj ((ix0 ej).symm.trans (ix0 el)))
            exact (ss_par3 o.cm o.nm (ix0 ei) (ix0 ej) (ix0 el) hij hil hjl (isLo_ok hl.1) (isLo_ok hl.2.1) (isLo_ok hl.2.2) (cAf_ok h ea) hw rfl).run pins s σ H D I hD
          · cases q
        · split at q
          · rename_i hp
            split at q
            · rename_i d0 g0 ed eg
              cases q
              exact asg_core o h (h _ _ ed) eg swaps_tup (swapped_zero o.nm hp)
            · cases q
          · cases q
      · split at q
        · rename_i hp
          split at q
          · rename_i d0 g0 ed eg
            cases q
            exact asg_core o h (h _ _ ed) eg swaps_tup (swapped_zero o.nm hp)
          · cases q
        · cases q
    · rename_i hv
      split at q
      · rename_i d0 g0 ed eg
        cases q
        refine asg_core o h (h _ _ ed) eg swaps_tup (swapped_notTup ?_)
        cases v <;> first | rfl | exact (hv _ _ _ rfl).elim
      · cases q
  · split at q
    · rename_i d0 g0 ed eg
      cases q
      exact asg_core o h (h _ _ ed) eg swaps_sub (swapped_name (fun _ _ _ z => by cases z) (fun _ _ z => by cases z))
    · cases q
  · cases q
theorem cSs_ok {f : Stmt → Option DS} (h : ∀ s d, f s = some d → PS X s (TSof T W rt d)) : ∀ {l : List Stmt} {d : DS}, cSs f l = some d → PSs X l (TSof T W rt d)
  | [], d, q => by cases q; exact sss_nil
  | s :: r, d, q => by
    unfold cSs at q
    split at q
    · rename_i a b ea eb
      cases q
      exact sss_cons (h s a ea) (cSs_ok h eb)
    · cases q
def SoS (cs : CS) : Prop := ∀ Γ st d, cs Γ st = some d → ∀ T rt W X, OkS Γ T rt W X → PS X st (TSof T W rt d)
theorem stepS_ok {ce : CE} {ct : CT} {cs : CS} (he : SoE ce) (hsc : SoC ce) (ht : SoT ct) (hs : SoS cs) : SoS (stepS ce ct cs) := by
  intro Γ st d q T rt W X o
  have h : ∀ e d, ce Γ e = some d → PE X e (TEof T W rt d) := fun e d q => he Γ e d q T rt W X o.toOkX
  have h' : ∀ e d, ct Γ e = some d → PT X e (TTof T W rt d) := fun e d q => ht Γ e d q T rt W X o.toOkX
  have h2 : ∀ s d, cs Γ s = some d → PS X s (TSof T W rt d) := fun s d q => hs Γ s d q T rt W X o
  unfold stepS at q
  split at q
  · split at q
    · rename_i hn
      split at q
      · rename_i ed
        cases q
        exact ss_expr (h _ _ ed) (swaps_ok hn)
      · cases q
    · cases q
  · split at q
    · split at q
      · rename_i ed
        cases q
        exact ss_ret (h _ _ ed)
      · cases q
    · cases q
      exact ss_retN
  · cases q; exact ss_pass
  · cases q; exact ss_break
  · cases q; exact ss_cont
  · split at q
    · rename_i ec ea eb
      cases q
      exact ss_if (h' _ _ ec) (cSs_ok h2 ea) (cSs_ok h2 eb)
    · cases q
  · split at q
    · rename_i ec eb
      cases q
      exact ss_while o.po (h' _ _ ec) (cSs_ok h2 eb)
    · cases q
  · split at q
    · rename_i hn
      split at q
      · rename_i ei eg eb
        cases q
        exact ss_for o.po o.cm (cIf_ok o.toOkX h ei) (cGt_ok o.K o.cm o.nm (fun _ _ _ _ => trivial) (fun _ => trivial) (fun _ _ _ _ _ => trivial) eg) (cSs_ok h2 eb) (folded_ok hn)
      · cases q
    · cases q
  · split at q
    · exact cAsg_ok he hsc o.toOkX q
    · cases q
  · cases q; exact ss_never
  · cases q
theorem cS_ok {ce : CE} {ct : CT} (he : SoE ce) (hsc : SoC ce) (ht : SoT ct) : ∀ n, SoS (cS ce ct n)
  | 0 => fun Γ st d q => by unfold cS at q; cases q
  | n + 1 => by unfold cS; exact stepS_ok he hsc ht (cS_ok he hsc ht n)
end
end Vf
end L2
end
section
/-! VO: a whole module of defs. -/
namespace L2
namespace Vf
open PySem PySem.Spec PyProof.Rows
section
variable {P : Program} {w : World} {K : PySem.W.Frag} {mg : Str → Option Value} {base : Heap}
/-- a def by its body, no text being written around it -/
theorem fng_of {x qual : Str} {st : Stmt} {f : Addr} {fd : FuncData} {N ps : List Str} {k : Nat} {sp : Sp} (F : Fun K x qual st f fd) (S : FnScope N ps (defScope st)) (len : ∀ vs H Q E, sp vs H Q E → vs.length = ps.length)
    (hbody : ∀ (cdv : Value) (A : Around) (outer : List Env) (s : Shared) (H : Hp) (vs : List V) (Q : VK) (E : XK), A.guards = some [] → Room k (A.deeper (envOfC qual (defScope st) s.heap.objs.size f cdv)) → sp vs H Q E →
      ∃ t, PSs (cxOf (L2.CX P w) P w K mg base N qual (defScope st) f cdv A outer s H E) (defBody st) t ∧ t { nx := fun _ H' => Q .non H', rt := Q } (start N vs) H) : FnG P w K mg base (k + 1) f fd ps sp := by
  obtain ⟨oc, od, kV, doc, pm, an, cdv, ct, osl, rfl, lk, hcd⟩ := F.ex
  constructor
  · exact len
  · intro A outer s H args us vs Q E hg hr ev hb rv hsp
    have same : ∀ b o, base.get? b = some o → s.heap.get? b = some o := fun b o e => (ev.bs b o e).1
    have hK : K.In s.heap := ev.mod.kin.keeps same
    have hno : s.heap.NoLimit := ev.mod.nolimit.keeps same
    have kinds : ∀ y ∈ ps.zip us, (defScope st).names.lookup y.1 = some .local ∨ ((defScope st).names.lookup y.1 = some .cell ∧ ((cellsFrom (s.heap.objs.size + 1) (defScope st).names []).lookup y.1).isSome = true) := by
      rintro ⟨n, v⟩ hy
      exact (S.par n (List.of_mem_zip hy).1).imp id fun q => ⟨q, PySem.W.cellsFrom_some _ _ _ (.inl q)⟩
    apply codeAny_call_function hr.depth (hK _ _ lk) rfl S.co S.gen rfl (PySem.W.codeRec_of hK hcd)
    refine hb _ _ _ _ (wpAny_newFunctionEnv_cells S.kind kinds ?_)
    rintro env rfl s1 ic
    refine ⟨hno.keeps ic.toInCall.keep, codeAny_func ?_⟩
    obtain ⟨t, hps, ht⟩ := hbody cdv A outer s H vs Q E hg (hr.deeper _) hsp
    have I0 : Inv (cxOf (L2.CX P w) P w K mg base N qual (defScope st) f cdv A outer s H E) [] (start N vs) H s1 := inv_start S hr.hd ev (len _ _ _ _ hsp) rv ic
    have back : ∀ (σ' : L2.St) (H' : Hp) (v : V) (u : Value) (s' : Shared), Inv (cxOf (L2.CX P w) P w K mg base N qual (defScope st) f cdv A outer s H E) [] σ' H' s' → RelV v u → Q v H' → L2.CE outer P w H s Q u s' := by
      intro σ' H' v u s' J r q
      exact ⟨v, H', J.os, J.bare, J.base, J.hok, r, q⟩
    apply wpAny_mono (hps.run [] s1 (start N vs) H _ I0 ht)
    · intro fl s' hs
      rcases fl with _ | _ | _ | u
      · obtain ⟨σ', H', J, q⟩ := hs
        exact back σ' H' .non .none s' J rfl q
      · obtain ⟨_, _, _, q⟩ := hs; exact q.elim
      · obtain ⟨_, _, _, q⟩ := hs; exact q.elim
      · obtain ⟨v, σ', H', J, r, q⟩ := hs
        exact back σ' H' v u s' J r q
    · exact fun _ _ h => h
end
/-- the bodies, by number: a body, how many parameters, how many slots -/
abbrev Tab := List (DS × Nat × Nat)
/-- the module's defs as functions: k levels of calls, loops of at most fuel turns -/
def runP (B : Tab) (fuel : Nat) : Nat → Nat → List MV → MH → Rs MV
  | 0, _, _, _ => .stuck
  | k + 1, i, as, mh => match B[i]? with
    | some (b, np, nl) => bodyR b np nl ⟨runP B fuel k, fuel⟩ as mh
    | none => .stuck
/-- how deep expressions, statements stand -/
abbrev deepE : Nat := 40
/-- a def of the text with its denotation -/
structure DefIs (K : PySem.W.Frag) (mg : Str → Option Value) (gl : List (Str × MV)) (fs : List (Str × (Nat × List Str × List (Nat × List Str)))) (bn : List Str) (x : Str) (ps : List Str) (kws : List (Nat × List Str)) (b : DS × Nat × Nat) : Prop where
  ex : ∃ f fd N st, Fun K x x st f fd ∧ mg x = some (.ref f) ∧ FnScope N ps (defScope st) ∧ Binds K fd ps [] ∧ (∀ q ∈ kws, KwB K fd ps q.1 q.2) ∧
    cSs (cS (cE deepE) (cT deepE) deepE ⟨N, (defScope st).names, gl, fs, bn⟩) (defBody st) = some b.1 ∧ b.2.1 = ps.length ∧ b.2.2 = N.length
/-- the module, as it stands behind the top -/
structure ModIs (T : Tx) (mg : Str → Option Value) (gl : List (Str × MV)) (fs : List (Str × (Nat × List Str × List (Nat × List Str)))) (bn : List Str) (B : Tab) : Prop where
  hgl : ∀ x m, gl.lookup x = some m → ∃ v u, mg x = some u ∧ RelV v u ∧ ∀ ρ H, RV T ρ H m v
  hbn : ∀ x, bn.contains x = true → mg x = none
  hfs : ∀ x q, fs.lookup x = some q → ∃ b, B[q.1]? = some b ∧ DefIs T.K mg gl fs bn x q.2.1 q.2.2 b
section
variable {P : Program} {w : World} {T : Tx} {mg : Str → Option Value} {gl : List (Str × MV)} {fs : List (Str × (Nat × List Str × List (Nat × List Str)))} {bn : List Str} {B : Tab}
theorem rst_start {ρ : List Addr} {H : Hp} {N : List Str} {as : List MV} {vs : List V} (r : RVs T ρ H as vs) (hl : as.length ≤ N.length) : RSt T ρ H (as.map some ++ List.replicate (N.length - as.length) none) (start N vs) := by
  refine ⟨?_, fun i m q => ?_⟩
  · unfold start
    simp [r.len]
  · have hi : i < as.length := by
      by_cases hi : i < as.length
      · exact hi
      · rw [List.getElem?_append_right (by simpa using hi), List.getElem?_replicate] at q
        split at q <;> cases q
    rw [List.getElem?_append_left (by simpa using hi), List.getElem?_map] at q
    cases e : as[i]? with
    | none => rw [e] at q; cases q
    | some a =>
      rw [e] at q
      cases q
      obtain ⟨v, ev, rv⟩ := r.get e
      refine ⟨v, ?_, rv⟩
      unfold start
      rw [List.getElem?_append_left (by simpa [r.len] using hi), List.getElem?_map, ev]; rfl
theorem prog_ok (M : ModIs T mg gl fs bn B) (hwd : ∀ X : Cx, X.prog = P → X.w = w → X.K = T.K → WdOk T X) (fuel : Nat) : ∀ k : Nat, ∀ x q, fs.lookup x = some q → ∃ f fd, (∀ base : Heap, FnG P w T.K mg base k f fd q.2.1 (spOf T (runP B fuel k q.1) q.2.1.length)) ∧ mg x = some (.ref f) ∧ PySem.W.keepIn T.K (.ref f) = true ∧ Binds T.K fd q.2.1 [] ∧ ∀ z ∈ q.2.2, KwB T.K fd q.2.1 z.1 z.2 := by
  intro k
  induction k with
  | zero =>
    intro x q e
    obtain ⟨b, _, D⟩ := M.hfs x q e
    obtain ⟨f, fd, N, st, F, hm, _, hb, hk, _⟩ := D.ex
    exact ⟨f, fd, fun base => ⟨fun _ _ _ _ h => h.1, fun A outer s H args us vs Q E hg hr ev bd rv hsp => (by
      obtain ⟨_, ρ, as, mh, _, _, w⟩ := hsp
      exact w.elim)⟩, hm, F.kp, hb, hk⟩
  | succ k ih =>
    intro x q e
    obtain ⟨⟨b, np, nl⟩, eb, D⟩ := M.hfs x q e
    obtain ⟨f, fd, N, st, F, hm, S, hb, hk, hc, h1, h2⟩ := D.ex
    dsimp only at hc h1 h2
    refine ⟨f, fd, ?_, hm, F.kp, hb, hk⟩
    refine fun base => fng_of F S (fun _ _ _ _ h => h.1) fun cdv A outer s H vs Q E hg hr ⟨hl, ρ, as, mh, rh, ra, wn⟩ => ?_
    have ok : OkS ⟨N, (defScope st).names, gl, fs, bn⟩ T ⟨runP B fuel k, fuel⟩ (fun c d _ H' => E c d H') (cxOf (L2.CX P w) P w T.K mg base N x (defScope st) f cdv A outer s H E) :=
      { K := rfl
        nm := ⟨rfl, S.nd, fun _ h => h, fun _ h => h, fun _ h => .inl h, fun _ h => h, fun _ _ => rfl⟩
        cm := rfl
        gd := hg
        un := by
          have := hr.un
          show (A.deeper (envOfC x (defScope st) s.heap.objs.size f cdv)).units + 200 < cLine
          omega
        tk := takes_of rfl rfl rfl rfl
        gl := M.hgl
        bn := M.hbn
        fs := fun y q2 e2 => by
          obtain ⟨f2, fd2, F2, m2, k2, b2, kw2⟩ := ih y q2 e2
          exact ⟨⟨k, f2, fd2, F2 base, hr, m2, k2, b2, kw2⟩⟩
        wd := hwd _ rfl rfl rfl
        po := passes_of rfl }
    refine ⟨_, cSs_ok (fun st' d q' => cS_ok (c_ok deepE).1 (c_sc deepE) (c_ok deepE).2 deepE _ st' d q' T _ _ _ ok) hc, ?_⟩
    have w0 := wn
    unfold runP at w0
    rw [eb] at w0
    dsimp only at w0
    unfold bodyR at w0
    split at w0
    · rename_i hn
      have hn := Nat.eq_of_beq_eq_true hn
      have hle : as.length ≤ N.length := by
        have := congrArg List.length S.pre
        rw [List.length_take] at this
        rw [hn, h1]; omega
      have hns : nl - np = N.length - as.length := by rw [h2, hn]
      rw [hns] at w0
      refine ⟨ρ, _, mh, rh, rst_start ra hle, ?_⟩
      split at w0
      · rename_i en; rw [en]; exact fun σ' ρ' H' x1 x2 x3 => w0 .non ρ' H' x1 x2 .non
      · rename_i en; rw [en]; exact fun z ρ' H' x1 x2 x3 => w0 z ρ' H' x1 x2 x3
      · rename_i en; rw [en]; exact fun c dd σ' ρ' H' x1 x2 x3 x4 => w0 c dd ρ' H' x1 x2 x3
      · exact w0.elim
    · exact w0.elim
end
end Vf
end L2
end
section
/-! VP: the end of a law. -/
namespace L2
namespace Vf
open PySem PySem.Spec PyProof.Rows
section
variable {P : Program} {w : World} {K : PySem.W.Frag} {mg mb : Str → Option Value} {k : Nat} {fa a : Addr} {fd : FuncData} {x : Str} {sp : Sp} {s₁ : Shared} {vs : List Value} {ns : List Int}
/-- the abstract heap at the law's entry: the script alone, or nothing -/
structure Entry (P : Program) (w : World) (K : PySem.W.Frag) (s₁ : Shared) (a : Addr) (ns : List Int) (H : Hp) : Prop where
  only : ∀ b u, H b = some u → b = a ∧ ∃ o xs, u = .frz o (.lst xs)
  ok : HOk P w H s₁.heap
  fl : (∃ o, H a = some (.frz o (.lst (ns.map V.int)))) ∨ ((∃ (o : Obj) (its : Array Value) (n : Nat), K.lookup a = some o ∧ o.cls = .type "list" ∧ o.dict = none ∧ o.data = .seq its n ∧ its.size ≤ sizeLine ∧ Vals (ns.map V.int) its.toList) ∧ ∀ b, H b = none)
  nk : H a ≠ none → K.lookup a = none
theorem entry_of (KX : K.In s₁.heap) (ha : s₁.heap.get? a = some { cls := .type "list", data := .seq vs.toArray }) (hi : IntsAre vs ns) (hl : ns.length ≤ sizeLine) : ∃ H, Entry P w K s₁ a ns H := by
  have rv := vals_ints hi
  cases hk : K.lookup a with
  | some o =>
    have e := KX a o hk
    rw [ha] at e
    cases e
    exact ⟨fun _ => none, fun b u z => (by cases z), fun b u z => (by cases z), .inr ⟨⟨_, vs.toArray, _, hk, rfl, rfl, rfl, by rw [List.size_toArray, hi.length]; exact hl, by simpa using rv⟩, fun _ => rfl⟩, fun z => absurd rfl z⟩
  | none =>
    let ob : Obj := { cls := .type "list", data := .seq vs.toArray }
    let H : Hp := upd (fun _ => none) a (.frz ob (.lst (ns.map V.int)))
    have only : ∀ b u, H b = some u → b = a ∧ u = .frz ob (.lst (ns.map V.int)) := fun b u z => by
      by_cases hb : b = a
      · subst hb
        rw [show H b = some _ from upd_same] at z
        cases z
        exact ⟨rfl, rfl⟩
      · rw [show H b = none from upd_ne hb] at z
        cases z
    refine ⟨H, fun b u z => ?_, fun b u z => ?_, .inl ⟨ob, upd_same⟩, fun _ => hk⟩
    · obtain ⟨h1, h2⟩ := only b u z
      exact ⟨h1, ob, _, h2⟩
    · obtain ⟨rfl, rfl⟩ := only b u z
      exact ⟨ha, by rw [List.length_map]; exact hl, vs, _, rv, ha⟩
theorem law_callG (KX : K.In s₁.heap) (hns : s₁.heap.Ns mainGlobals mg) (hb : s₁.heap.Ns builtinsNs mb) (hbb : ∀ x : Str, x ≠ "__name__" → mb x = bootBuiltins x) (hlim : s₁.heap.NoLimit) (hg : s₁.gens = #[])
    (ha : s₁.heap.get? a = some { cls := .type "list", data := .seq vs.toArray }) (hi : IntsAre vs ns) (hl : ns.length ≤ sizeLine) (hr : Room k callerA)
    (F : ∀ base : Heap, K.In base → base.Ns mainGlobals mg → FnG P w K mg base k fa fd [x] sp) (hbind : Binds K fd [x] [])
    (hsp : ∀ H : Hp, Entry P w K s₁ a ns H → sp [.ref a] H (fun v _ => v = .bl true) fun _ _ _ => False) :
    codeAny (model P w) callerA (.call (.ref fa) ⟨[.ref a], []⟩) (fun r s' => r = .ok (.ret (.bool true)) ∧ OldK s₁.heap s'.heap ∧ s'.os = s₁.os ∧ AllBare s'.gens) s₁ := by
  obtain ⟨H, hH⟩ := entry_of (P := P) (w := w) KX ha hi hl
  -- what isn't the script is a part of the base
  have keep : ∀ {b : Addr} {o : Obj}, s₁.heap.get? b = some o → H b = none → (hidT s₁.heap H).get? b = some o := fun e n => hidT_get e n
  have notA : ∀ {b : Addr} {o : Obj} {es : Array DictEntry} {ep : Nat}, s₁.heap.get? b = some o → o.data = .dict es ep → H b = none := by
    intro b o es ep e d
    cases q : H b with
    | none => rfl
    | some u =>
      obtain ⟨rfl, _⟩ := hH.only b u q
      rw [ha] at e
      cases e
      cases (show Data.seq vs.toArray _ = Data.dict es ep from d)
  have ns' : ∀ {b : Addr} {m : Str → Option Value}, s₁.heap.Ns b m → (hidT s₁.heap H).Ns b m := by
    rintro b m ⟨o, es, ep, e, d, r⟩
    exact ⟨o, es, ep, keep e (notA e d), d, r⟩
  have KB : K.In (hidT s₁.heap H) := by
    intro b o e
    refine keep (KX b o e) ?_
    cases q : H b with
    | none => rfl
    | some u =>
      obtain ⟨rfl, _⟩ := hH.only b u q
      rw [hH.nk (by rw [q]; simp)] at e
      cases e
  obtain ⟨mc, l1, l2⟩ := hlim
  have ev : Env0 P w K mg (hidT s₁.heap H) callerA [] s₁ H :=
    { frames := rfl, mod := ⟨KB, ns' hns, ⟨mb, ns' hb, hbb⟩, ⟨mc, ns' l1, l2⟩⟩, bs := fun b o e => of_hidT e, bsz := Nat.le_of_eq (hidT_size _ _), funs := trivial, frf := fun b z => (by cases z), hok := hH.ok, bare := .of_eq hg }
  apply codeAny_mono ((F _ KB (ns' hns)).run callerA [] s₁ H ⟨[.ref a], []⟩ [.ref a] [.ref a] _ _ rfl hr ev (hbind s₁ [.ref a] KX rfl) (.cons rfl .nil) (hsp H hH))
  intro r s' h
  rcases r with e | (_ | _ | _ | u)
  · obtain ⟨_, _, _, _, _, _, _, _, _, _, _, _, z⟩ := h
    exact z.elim
  · exact h.elim
  · exact h.elim
  · exact h.elim
  · obtain ⟨v, H', os, bare, un, hok', rv, q⟩ := h
    have q : v = .bl true := q
    subst q
    obtain rfl : u = Value.bool true := rv
    refine ⟨rfl, OldK.of_keep ?_, os, bare⟩
    intro b o e
    cases q : H b with
    | none => exact un.keep b o e q (fun z => by cases z) (fun z => by cases z)
    | some u =>
      obtain ⟨_, ob, xs, rfl⟩ := hH.only b u q
      obtain ⟨e1, _⟩ := hH.ok b _ q
      obtain ⟨e2, _⟩ := hok' b _ (un.frzs b ob _ q)
      rw [e] at e1
      cases e1
      exact e2
end
/-- the script, as an own value -/
theorem entry_rv {P : Program} {w : World} {T : Tx} {s₁ : Shared} {a : Addr} {ns : List Int} {H : Hp} (h : Entry P w T.K s₁ a ns H) : RV T [] H (.fl (ns.map .int)) (.ref a) := by
  unfold RV
  refine ⟨a, ns.map V.int, rfl, ?_, .ints⟩
  rcases h.fl with h1 | ⟨h1, _⟩
  · exact .inl ⟨h1, by simp⟩
  · exact .inr h1
theorem rh_nil {T : Tx} {H : Hp} : RH T [] [] H := ⟨rfl, List.nodup_nil, fun n a o e => by simp at e⟩
/-- a law's end: its denotation says True at every script -/
theorem walk_ofG {l : PySem.W.OpenLaw} {n k : Nat} {q : Program} {loose : List Str} {XP : (Str → Option Value) → Heap → Prop} {YP : World → Heap → Prop} {d : DefRec} {x : Str}
    (hn : l.most = some n) (hn2 : n ≤ sizeLine) (hdf : d.params.defaults = []) (hr : Room k callerA)
    (F : ∀ (w : World) (mg : Str → Option Value) (fa : Addr) (h : Heap), YP w h → h.Ns mainGlobals mg → mg d.name = some (.ref fa) →
      ∃ (T : Tx) (fd : FuncData) (cl : List MV → MH → Rs MV), T.K.In h ∧ Binds T.K fd [x] [] ∧
        (∀ ns : List Int, ns.length ≤ n → ∃ mh, cl [.fl (ns.map .int)] [] = .ok (.bl true) mh) ∧
        ∀ base : Heap, T.K.In base → base.Ns mainGlobals mg → FnG l.prog w T.K mg base k fa fd [x] (spOf T cl 1)) :
    PySem.W.WalkO q loose XP YP l.row.toRowW d [] (fun f vs => PySem.call f vs) := by
  refine Att.attach_call hn hdf fun w s₀ s₁ mg mb fa o pm cd doc a vs ns G Y ho hd hcd hmg hobj hints hlen hg => ?_
  obtain ⟨T, fd, cl, KX, hb, hcl, hF⟩ := F w mg fa _ Y G.T.g hmg
  refine law_callG KX G.T.g G.T.b G.T.builtins G.T.nolimit hg hobj hints (Nat.le_trans hlen hn2) hr hF hb fun H hH => ?_
  obtain ⟨mh, e⟩ := hcl ns hlen
  refine ⟨rfl, [], [.fl (ns.map .int)], [], rh_nil, .cons (entry_rv hH) .nil, ?_⟩
  rw [e]
  intro v ρ' H' _ _ rv
  unfold RV at rv
  exact rv
end Vf
end L2
end
section
/-! VQ: from the head's facts to the module. -/
namespace L2
namespace Vf
open PySem PySem.Spec PyProof.Rows
section
variable {K : PySem.W.Frag} {mg : Str → Option Value} {h : Heap} {x : Str} {st : Stmt} {f : Addr} {fd : FuncData} {ps : List Str}
theorem fun_of (F : FunD K x x (defArgs st) (defBody st) (defScope st) [] [] f fd) : Fun K x x st f fd := by
  obtain ⟨oc, od, dV, kV, doc, pm, an, cdv, ct, osl, e, lk, hcd, hD, _⟩ := F.ex
  rcases hD with ⟨_, rfl⟩ | ⟨z, _⟩
  · exact ⟨⟨oc, od, kV, doc, pm, an, cdv, ct, osl, e, lk, hcd⟩, F.kp⟩
  · exact absurd rfl z
theorem kwB_of {n : Nat} {ks : List Str} (F : FunD K x x (defArgs st) (defBody st) (defScope st) [] [] f fd)
    (hb : ∀ (kV doc pm : Value) (an : Option Addr) (cdv ct : Value) (us ws : List Value), us.length = n → ws.length = ks.length → bindArgs (PySem.W.fnOf x x (defArgs st) (defBody st) (defScope st) .none kV doc pm an cdv ct) ⟨us, ks.zip ws⟩ = pure (ps.zip (us ++ kwIn (ps.drop n) ks ws))) : KwB K fd ps n ks := by
  obtain ⟨oc, od, dV, kV, doc, pm, an, cdv, ct, osl, rfl, lk, hcd, hD, hK⟩ := F.ex
  rcases hD with ⟨_, rfl⟩ | ⟨e, _⟩
  · exact fun s us ws _ h1 h2 => BindsTo.of_eq (hb kV doc pm an cdv ct us ws h1 h2)
  · exact absurd rfl e
/-- a def of the row's top, by the head's facts -/
theorem defIs_of {gl : List (Str × MV)} {fs : List (Str × (Nat × List Str × List (Nat × List Str)))} {bn : List Str} {N : List Str} {kws : List (Nat × List Str)} {d : DS}
    (F : FunD K x x (defArgs st) (defBody st) (defScope st) [] [] f fd) (hm : mg x = some (.ref f)) (S : FnScope N ps (defScope st)) (hb : Binds K fd ps []) (hk : ∀ q ∈ kws, KwB K fd ps q.1 q.2)
    (hc : cSs (cS (cE deepE) (cT deepE) deepE ⟨N, (defScope st).names, gl, fs, bn⟩) (defBody st) = some d) : DefIs K mg gl fs bn x ps kws (d, ps.length, N.length) :=
  ⟨f, fd, N, st, fun_of F, hm, S, hb, hk, hc, rfl, rfl⟩
end
theorem mem_of_lookup {α : Type} {x : Str} {v : α} : ∀ {l : List (Str × α)}, l.lookup x = some v → (x, v) ∈ l
  | [], h => by cases h
  | (y, u) :: r, h => by
    rw [List.lookup_cons] at h
    cases e : x == y with
    | true =>
      rw [e] at h
      have := eq_of_beq e
      subst this
      cases h
      exact List.mem_cons_self
    | false =>
      rw [e] at h
      exact List.mem_cons_of_mem _ (mem_of_lookup h)
def GlOk (T : Tx) (mg : Str → Option Value) (p : Str × MV) : Prop := ∃ v u, mg p.1 = some u ∧ RelV v u ∧ ∀ ρ H, RV T ρ H p.2 v
section
variable {T : Tx} {mg : Str → Option Value} {h : Heap} {x : Str}
theorem gl_int (X : T.K.In h) (G : h.Ns mainGlobals mg) {i : Int} (c : (He.Fa.int x i).ok T.K = true) : GlOk T mg (x, .int i) := by
  obtain ⟨t, e⟩ := He.int_ok X G c
  exact ⟨.int i, _, e, ⟨t, rfl⟩, fun ρ H => by unfold RV; rfl⟩
theorem gl_str (X : T.K.In h) (G : h.Ns mainGlobals mg) {cs : List Nat} (c : (He.Fa.str x (S cs)).ok T.K = true) : GlOk T mg (x, .str cs) := by
  obtain ⟨t, e⟩ := He.str_ok X G c
  exact ⟨.str (S cs), _, e, ⟨t, rfl⟩, fun ρ H => by unfold RV; rfl⟩
theorem modIs_of {gl : List (Str × MV)} {fs : List (Str × (Nat × List Str × List (Nat × List Str)))} {bn : List Str} {B : Tab}
    (h1 : ∀ p ∈ gl, GlOk T mg p) (h2 : ∀ y ∈ bn, mg y = none) (h3 : ∀ q ∈ fs, ∃ b, B[q.2.1]? = some b ∧ DefIs T.K mg gl fs bn q.1 q.2.2.1 q.2.2.2 b) : ModIs T mg gl fs bn B :=
  ⟨fun x m e => h1 _ (mem_of_lookup e), fun x e => h2 x (List.contains_iff_mem.mp e), fun x q e => h3 _ (mem_of_lookup e)⟩
end
theorem fa_all {fa : List He.Fa} {fn : List He.DefD} {K : PySem.W.Frag} (c : He.SaysD fa fn K) {f : He.Fa} (m : f ∈ fa) : f.ok K = true := by
  obtain ⟨i, hi⟩ := List.mem_iff_getElem?.mp m
  exact c.fact i hi
end Vf
end L2
end
section
/-! VR: plain lemmas of the denotations. -/
namespace L2
namespace Vf
open PySem PySem.Spec PyProof.Rows
section
variable {c : DB} {b : DS} {g : DG} {rt : Rt} {n i : Nat} {env env2 env3 : Env'} {mh mh1 mh2 mh3 : MH} {v w : MV} {nxt : Nxt}
theorem whileL_true (hc : c rt env mh = .ok true mh1) (hb : b rt env mh1 = .nx env2 mh2) : whileL c b rt (n + 1) env mh = whileL c b rt n env2 mh2 := by
  rw [whileL, hc]
  simp only [toS, hb]
theorem whileL_ct (hc : c rt env mh = .ok true mh1) (hb : b rt env mh1 = .ct env2 mh2) : whileL c b rt (n + 1) env mh = whileL c b rt n env2 mh2 := by
  rw [whileL, hc]
  simp only [toS, hb]
theorem whileL_false (hc : c rt env mh = .ok false mh1) : whileL c b rt (n + 1) env mh = .nx env mh1 := by
  rw [whileL, hc]
  simp only [toS]
theorem whileL_rt (hc : c rt env mh = .ok true mh1) (hb : b rt env mh1 = .rt v mh2) : whileL c b rt (n + 1) env mh = .rt v mh2 := by
  rw [whileL, hc]
  simp only [toS, hb]
theorem whileL_bk (hc : c rt env mh = .ok true mh1) (hb : b rt env mh1 = .bk env2 mh2) : whileL c b rt (n + 1) env mh = .nx env2 mh2 := by
  rw [whileL, hc]
  simp only [toS, hb]
theorem forL_end (hn : nxt i mh = some none) : forL nxt g b rt (n + 1) i env mh = .nx env mh := by
  rw [forL, hn]
theorem forL_next (hn : nxt i mh = some (some v)) (hg : g rt v env mh = .nx env2 mh2) (hb : b rt env2 mh2 = .nx env3 mh3) : forL nxt g b rt (n + 1) i env mh = forL nxt g b rt n (i + 1) env3 mh3 := by
  rw [forL, hn]
  simp only [hg, hb]
theorem forL_rt (hn : nxt i mh = some (some v)) (hg : g rt v env mh = .nx env2 mh2) (hb : b rt env2 mh2 = .rt w mh3) : forL nxt g b rt (n + 1) i env mh = .rt w mh3 := by
  rw [forL, hn]
  simp only [hg, hb]
end
theorem getM_nat (xs : List MV) (n : Nat) : getM xs ((n : Nat) : Int) = xs[n]? := rfl
theorem getC_nat (xs : List Nat) (n : Nat) : getC xs ((n : Nat) : Int) = xs[n]? := rfl
theorem getC_nat1 (xs : List Nat) (n : Nat) : getC xs ((n : Nat) + 1 : Int) = xs[n + 1]? := rfl
theorem getC_nat2 (xs : List Nat) (n m : Nat) : getC xs ((n : Nat) + (m : Nat) : Int) = xs[n + m]? := rfl
theorem cutG_nat {α : Type} (xs : List α) (a b : Nat) : cutG xs (some (a : Int)) (some (b : Int)) = (xs.drop a).take (b - a) := by
  unfold cutG
  rw [HT.sIx_nat, HT.sIx_nat]
  by_cases ha : a ≤ xs.length
  · rw [Nat.min_eq_left ha]
    by_cases hb : b ≤ xs.length
    · rw [Nat.min_eq_left hb]
    · have e : min b xs.length = xs.length := by omega
      rw [e, List.take_of_length_le (by simp), List.take_of_length_le (by simp; omega)]
  · have e : min a xs.length = xs.length := by omega
    rw [e, List.drop_of_length_le (Nat.le_refl _), List.drop_of_length_le (by omega)]
    simp
theorem cutG_from {α : Type} (xs : List α) (a : Nat) : cutG xs (some (a : Int)) none = xs.drop a := by
  unfold cutG
  rw [HT.sIx_nat, HT.sIx_none]
  by_cases ha : a ≤ xs.length
  · rw [Nat.min_eq_left ha, List.take_of_length_le (by simp)]
  · have e : min a xs.length = xs.length := by omega
    rw [e, List.drop_of_length_le (Nat.le_refl _), List.drop_of_length_le (by omega)]
    simp
theorem beqL_iff (a b : List Nat) : beqL a b = decide (a = b) := by
  induction a generalizing b with
  | nil => cases b <;> simp [beqL]
  | cons x xs ih => cases b with
    | nil => simp [beqL]
    | cons y ys => simp [beqL, ih, Bool.decide_and, Nat.beq_eq]; by_cases h : x = y <;> simp [h]
/-- a comprehension whose turns all come, with an invariant of the heap -/
theorem lcL_all {nxt : Nxt} {g : DG} {te : DE} {rt : Rt} {env : Env'} {Pv : MV → Prop} (I : Nat → MH → Prop) (N : Nat) (hN : N ≤ 16777216)
    (hstep : ∀ i mh, i < N → I i mh → ∃ v e w mh', nxt i mh = some (some v) ∧ g rt v env mh = .nx e mh ∧ te rt e mh = .ok w mh' ∧ Pv w ∧ I (i + 1) mh') (hend : ∀ mh, I N mh → nxt N mh = some none) :
    ∀ m i n acc mh, i + m = N → m < n → I i mh → (∀ v ∈ acc, Pv v) → ∃ xs mh', lcL nxt g yesD te rt env n i acc mh = some (xs, mh') ∧ (∀ v ∈ xs, Pv v) ∧ I N mh'
  | 0, i, n + 1, acc, mh, h1, h2, hI, ha => by
    have e : i = N := by omega
    subst e
    rw [lcL, hend mh hI]
    exact ⟨_, _, rfl, fun v hv => ha v (List.mem_reverse.mp hv), hI⟩
  | m + 1, i, n + 1, acc, mh, h1, h2, hI, ha => by
    obtain ⟨v, e, w, mh', q1, q2, q3, q4, q5⟩ := hstep i mh (by omega) hI
    have hb : Nat.blt i lim = true := by rw [Nat.blt_eq]; show i < 16777216; omega
    rw [lcL, q1]
    simp only [q2, yesD, q3, hb, if_true]
    exact lcL_all I N hN hstep hend m (i + 1) n (w :: acc) mh' (by omega) (by omega) q5 fun x hx => by
      rcases List.mem_cons.mp hx with rfl | hx
      · exact q4
      · exact ha x hx
theorem allB_true : ∀ {xs : List MV}, (∀ v ∈ xs, v = .bl true) → allB xs = some true
  | [], _ => rfl
  | v :: xs, h => by
    rw [h v List.mem_cons_self, allB, allB_true fun x hx => h x (List.mem_cons_of_mem _ hx)]
    rfl
end Vf
end L2
end
section
/-! VS: constants of the module: tuples, dicts with text keys. -/
namespace L2
namespace Vf
open PySem PySem.Spec PyProof.Rows
def chkL (f : MV → Value → Bool) : List MV → List Value → Bool
  | [], [] => true
  | m :: ms, u :: us => f m u && chkL f ms us
  | _, _ => false
/-- a value of the written part is as told -/
def chkV (K : PySem.W.Frag) : Nat → MV → Value → Bool
  | 0, _, _ => false
  | n + 1, m, u => match m, u with
    | .non, .none => true
    | .bl b, .bool c => b == c
    | .int i, .int j _ => decide (i = j)
    | .str cs, .str y _ => decide (y = S cs)
    | .tup ms, .ref a => match K.lookup a with
      | some ⟨.type c, none, .seq its _, sl⟩ => decide (c = "tuple") && (sl.isEmpty && (decide (its.size ≤ sizeLine) && chkL (chkV K n) ms its.toList))
      | _ => false
    | _, _ => false
theorem chkL_ok {T : Tx} {f : MV → Value → Bool} (hf : ∀ m u, f m u = true → ∃ v, RelV v u ∧ ∀ ρ H, RV T ρ H m v) : ∀ {ms : List MV} {us : List Value}, chkL f ms us = true → ∃ vs, Vals vs us ∧ ∀ ρ H, RVs T ρ H ms vs
  | [], [], _ => ⟨[], .nil, fun _ _ => .nil⟩
  | [], _ :: _, h => by cases h
  | _ :: _, [], h => by cases h
  | m :: ms, u :: us, h => by
    obtain ⟨h1, h2⟩ := Bool.and_eq_true_iff.mp (show (f m u && chkL f ms us) = true from h)
    obtain ⟨v, r1, r2⟩ := hf m u h1
    obtain ⟨vs, q1, q2⟩ := chkL_ok hf h2
    exact ⟨v :: vs, .cons r1 q1, fun ρ H => .cons (r2 ρ H) (q2 ρ H)⟩
theorem chkV_ok {T : Tx} : ∀ {n : Nat} (m : MV) (u : Value), chkV T.K n m u = true → ∃ v, RelV v u ∧ ∀ ρ H, RV T ρ H m v
  | 0, _, _, h => by cases h
  | n + 1, m, u, h => by
    unfold chkV at h
    split at h
    · exact ⟨.non, rfl, fun _ _ => .non⟩
    · rename_i b c
      have e : b = c := eq_of_beq h
      subst e
      exact ⟨.bl b, rfl, fun _ _ => .bl⟩
    · rename_i i j t
      have e : i = j := of_decide_eq_true h
      subst e
      exact ⟨.int i, ⟨t, rfl⟩, fun _ _ => .int⟩
    · rename_i cs y t
      have e : y = S cs := of_decide_eq_true h
      subst e
      exact ⟨.str (S cs), ⟨t, rfl⟩, fun _ _ => by unfold RV; rfl⟩
    · rename_i ms a
      split at h
      · rename_i c its n' sl e
        obtain ⟨h1, h2⟩ := Bool.and_eq_true_iff.mp h
        obtain ⟨h3, h4⟩ := Bool.and_eq_true_iff.mp h2
        obtain ⟨h5, h6⟩ := Bool.and_eq_true_iff.mp h4
        have ec : c = "tuple" := of_decide_eq_true h1
        subst ec
        obtain ⟨vs, r1, r2⟩ := chkL_ok (T := T) (fun m u => chkV_ok m u) h6
        refine ⟨.ref a, rfl, fun ρ H => ?_⟩
        unfold RV
        exact ⟨a, vs, rfl, .inr ⟨_, its, n', e, rfl, rfl, of_decide_eq_true h5, r1, rfl, Array.isEmpty_iff.mp h3⟩, r2 ρ H⟩
      · cases h
    · cases h
/-- a constant of the module -/
def glB (K : PySem.W.Frag) (x : Str) (m : MV) : Bool := match PySem.W.nsIn K mainGlobals x with
  | some (some u) => chkV K 8 m u
  | _ => false
theorem gl_any {T : Tx} {mg : Str → Option Value} {h : Heap} {x : Str} {m : MV} (X : T.K.In h) (G : h.Ns mainGlobals mg) (c : glB T.K x m = true) : GlOk T mg (x, m) := by
  unfold glB at c
  split at c
  · rename_i u e
    obtain ⟨v, r, rv⟩ := chkV_ok (T := T) m u c
    exact ⟨v, u, PySem.W.mg_of X G e, r, rv⟩
  · cases c
/-! ### dicts -/
structure WT where
  x : Str
  ks : List (List Nat)
  ms : List MV
def txW (K : PySem.W.Frag) (ts : List WT) : Tx where
  K := K
  ca := fun _ => 0
  wa := fun i => match ts[i]? with
    | some t => He.ga K t.x
    | none => 0
  wks := fun i => match ts[i]? with
    | some t => t.ks.map .str
    | none => []
  wvs := fun i => match ts[i]? with
    | some t => t.ms
    | none => []
theorem gl_wd {K : PySem.W.Frag} {ts : List WT} {mg : Str → Option Value} {h : Heap} {x : Str} {i : Nat} {ks : List (List Nat)} {ms : List MV} (X : K.In h) (G : h.Ns mainGlobals mg) (c : (He.Fa.glo x).ok K = true) (e : ts[i]? = some ⟨x, ks, ms⟩) : GlOk (txW K ts) mg (x, .wd i (ks.map .str) ms) := by
  refine ⟨.ref (He.ga K x), _, He.glo_ok X G c, rfl, fun ρ H => ?_⟩
  unfold RV
  have e1 : (txW K ts).wa i = He.ga K x := by show (match ts[i]? with | some t => He.ga K t.x | none => 0) = _; rw [e]
  have e2 : (txW K ts).wks i = ks.map .str := by show (match ts[i]? with | some t => t.ks.map MV.str | none => []) = _; rw [e]
  have e3 : (txW K ts).wvs i = ms := by show (match ts[i]? with | some t => t.ms | none => []) = _; rw [e]
  exact ⟨by rw [e1], e2.symm, e3.symm⟩
/-- the table's values -/
def dvB (K : PySem.W.Frag) (t : WT) : Bool := match K.lookup (He.ga K t.x) with
  | some ⟨_, _, .dict es _, _⟩ => chkL (chkV K 8) t.ms (es.toList.map (·.val)) && (decide (t.ks.Nodup) && decide (t.ks.length ≤ sizeLine))
  | _ => false
theorem ents_ok {T : Tx} {P : Program} {w : World} : ∀ {es : List DictEntry} {ks : List (List Nat)} {ms : List MV}, es.map He.keyOf = He.keysIn w.params (ks.map S) → chkL (chkV T.K 8) ms (es.map (·.val)) = true →
    ∃ (l : List (Key × V)) (vs : List (Key × Value)), (∀ ρ H, RKs T ρ H ((ks.map .str).zip ms) l) ∧ KV l vs ∧ Pairs (mixKind P w) es vs ∧ vs.map (·.1) = ks.map (fun k => Sum.inr (S k)) ∧ (ks.map MV.str).length = ms.length ∧ l.length = ks.length ∧ ∀ e ∈ es, ∃ k, (mixKind P w).is k e.key = true ∧ e.hash = (mixKind P w).hash k
  | [], [], [], _, _ => ⟨[], [], fun _ _ => rfl, .nil, .nil, rfl, rfl, rfl, fun e h => nomatch h⟩
  | [], [], _ :: _, _, h => by cases h
  | [], _ :: _, _, h, _ => by cases h
  | _ :: _, [], _, h, _ => by cases h
  | _ :: _, _ :: _, [], _, h => by cases h
  | e :: es, k :: ks, m :: ms, h, hv => by
    have h1 : He.keyOf e :: es.map He.keyOf = some (S k, PyData.keyHash w.params (S k)) :: He.keysIn w.params (ks.map S) := h
    injection h1 with h2 h3
    obtain ⟨v1, v2⟩ := Bool.and_eq_true_iff.mp (show (chkV T.K 8 m e.val && chkL (chkV T.K 8) ms (es.map (·.val))) = true from hv)
    obtain ⟨l, vs, r1, r2, r3, r4, r5, r6, r7⟩ := ents_ok (T := T) (P := P) h3 v2
    obtain ⟨v, q1, q2⟩ := chkV_ok (T := T) m e.val v1
    unfold He.keyOf at h2
    split at h2
    · rename_i x t ex
      obtain ⟨h5, h6⟩ := Prod.mk.inj (Option.some.inj h2)
      have hk : (mixKind P w).is (.inr (S k)) e.key = true := by
        rw [ex, h5]
        exact kV_is (k := .inr (S k)) (u := .str (S k) t) ⟨t, rfl⟩
      refine ⟨(.inr (S k), v) :: l, (.inr (S k), e.val) :: vs, fun ρ H => ⟨.inr (S k), v, l, rfl, ?_, q2 ρ H, r1 ρ H⟩, .cons ⟨rfl, q1⟩ r2, .cons hk rfl r3, ?_, ?_, ?_, ?_⟩
      · show MV.str k = .str (S k).cps.toList
        rw [S_cps]
      · rw [List.map_cons, List.map_cons, r4]
      · simp only [List.map_cons, List.length_cons]; simp at r5; rw [List.length_map, r5]
      · rw [List.length_cons, List.length_cons, r6]
      · intro z hz
        rcases List.mem_cons.mp hz with rfl | hz
        · exact ⟨.inr (S k), hk, h6⟩
        · exact r7 z hz
    · cases h2
theorem wdict_of {T : Tx} {P : Program} {w : World} {t : WT} (h : He.dicW T.K (He.ga T.K t.x) = some (He.keysIn w.params (t.ks.map S))) (hv : dvB T.K t = true) :
    (t.ks.map MV.str).length = t.ms.length ∧ ∃ l, (∀ ρ H, RKs T ρ H ((t.ks.map .str).zip t.ms) l) ∧ WDict P w T.K (He.ga T.K t.x) l := by
  unfold dvB at hv
  split at hv
  · rename_i oc od es n sl q
    obtain ⟨c1, c2⟩ := Bool.and_eq_true_iff.mp hv
    obtain ⟨c3, c4⟩ := Bool.and_eq_true_iff.mp c2
    have c3 := of_decide_eq_true c3
    have c4 := of_decide_eq_true c4
    obtain ⟨es2, n2, D⟩ := He.dicW_ok h
    have D1 := D.at_
    rw [q] at D1
    cases D1
    have hk : es.toList.map He.keyOf = He.keysIn w.params (t.ks.map S) := by
      unfold He.dicW at h
      rw [q] at h
      dsimp only at h
      split at h
      · exact Option.some.inj h
      · cases h
    obtain ⟨l, vs, r1, r2, r3, r4, r5, r6, r7⟩ := ents_ok (T := T) (P := P) hk c1
    refine ⟨r5, l, r1, by rw [r6]; exact c4, D.low, vs, r2, fun h' X' => ?_⟩
    refine ⟨_, es, n, X' _ _ q, ⟨rfl, rfl, rfl⟩, rfl, fun e he => r7 e (Array.mem_toList_iff.mpr he), r3, ?_⟩
    rw [r4]
    unfold List.Nodup
    rw [List.pairwise_map]
    exact List.Pairwise.imp (fun hne e => hne (S_inj (Sum.inr.inj e))) c3
  · cases hv
theorem wdOk_of {K : PySem.W.Frag} {ts : List WT} {P : Program} {w : World} (h : ∀ t ∈ ts, He.dicW K (He.ga K t.x) = some (He.keysIn w.params (t.ks.map S)) ∧ dvB K t = true) (X : Cx) (e1 : X.prog = P) (e2 : X.w = w) (e3 : X.K = (txW K ts).K) : WdOk (txW K ts) X := by
  intro i hi
  cases e : ts[i]? with
  | none =>
    refine absurd ?_ hi
    show (match ts[i]? with | some t => t.ks.map MV.str | none => []) = []
    rw [e]
  | some t =>
    obtain ⟨h1, h2⟩ := h t (List.mem_of_getElem? e)
    have e4 : (txW K ts).wa i = He.ga K t.x := by show (match ts[i]? with | some t => He.ga K t.x | none => 0) = _; rw [e]
    have e5 : (txW K ts).wks i = t.ks.map .str := by show (match ts[i]? with | some t => t.ks.map MV.str | none => []) = _; rw [e]
    have e6 : (txW K ts).wvs i = t.ms := by show (match ts[i]? with | some t => t.ms | none => []) = _; rw [e]
    rw [e4, e5, e6, e1, e2, e3]
    exact wdict_of (T := txW K ts) h1 h2
def tabsT (tabs : List WT) : List He.Tab := tabs.map fun t => (fun K => He.ga K t.x, t.ks.map S)
theorem tabs_ok {fa : List He.Fa} {fn : List He.DefD} {tabs : List WT} {ex : PySem.W.Frag → Bool} {w : World} {h : Heap} {K : PySem.W.Frag} (c : He.SaysX fa fn (tabsT tabs) [] ex w h K) (hv : tabs.all (dvB K) = true) :
    ∀ t ∈ tabs, He.dicW K (He.ga K t.x) = some (He.keysIn w.params (t.ks.map S)) ∧ dvB K t = true := by
  intro t ht
  refine ⟨?_, List.all_eq_true.mp hv t ht⟩
  have e := congrArg (fun z : He.AlT => z.2) c.t
  have e : (tabsT tabs).map (fun t => He.dicW K (t.1 K)) = (tabsT tabs).map (fun t => some (He.keysIn w.params t.2)) := e
  unfold tabsT at e
  rw [List.map_map, List.map_map] at e
  exact List.map_inj_left.mp e t ht
/-! ### the world's answer to one question, set -/
def setF (w : World) (r : String) (b : Bool) : World := { w with params := { w.params with followText := fun s => match decide (s = r) with
  | true => b
  | false => w.params.followText s } }
theorem setF_self (w : World) (r : String) : setF w r (w.params.followText r) = w := by
  obtain ⟨d, p⟩ := w
  have e : (fun s => match decide (s = r) with
      | true => p.followText r
      | false => p.followText s) = p.followText := funext fun s => by
    by_cases h : s = r
    · rw [decide_eq_true h, h]
    · rw [decide_eq_false h]
  show (⟨d, { p with followText := fun s => match decide (s = r) with
      | true => p.followText r
      | false => p.followText s }⟩ : World) = ⟨d, p⟩
  rw [e]
end Vf
end L2
end
section
/-! VW: what is wanted of a denotation's end, rule by rule. -/
namespace L2
namespace Vf
open PySem PySem.Spec PyProof.Rows
/-- it ends well, and Q holds -/
def Ok {α : Type} (r : Rs α) (Q : α → MH → Prop) : Prop := match r with
  | .ok a h => Q a h
  | _ => False
def Op (r : Option (MV × MH)) (Q : MV → MH → Prop) : Prop := match r with
  | some p => Q p.1 p.2
  | none => False
/-- a statement goes on (N) or returns (R) -/
def Os (r : RsS) (N : Env' → MH → Prop) (R : MV → MH → Prop) : Prop := match r with
  | .nx e h => N e h
  | .rt v h => R v h
  | _ => False
def Cd (k : Bool) (A B : Prop) : Prop := match k with
  | true => A
  | false => B
section
variable {α β : Type} {rt : Rt} {env : Env'} {mh : MH} {d da db dc dd : DE} {dl dk : DL} {c c2 : DB} {a b : DS} {g : DG} {gs : DGs} {N : Env' → MH → Prop} {R Q : MV → MH → Prop} {QB : Bool → MH → Prop} {QL : List MV → MH → Prop}
theorem Ok.mono {r : Rs α} {Q Q' : α → MH → Prop} (h : Ok r Q) (k : ∀ v m, Q v m → Q' v m) : Ok r Q' := by
  cases r with
  | ok v m => exact k _ _ h
  | exc x m => exact h
  | stuck => exact h
theorem Os.mono {r : RsS} {N N' : Env' → MH → Prop} {R R' : MV → MH → Prop} (h : Os r N R) (k : ∀ v m, N v m → N' v m) (k2 : ∀ v m, R v m → R' v m) : Os r N' R' := by
  cases r with
  | nx v m => exact k _ _ h
  | rt v m => exact k2 _ _ h
  | bk x m => exact h
  | ct x m => exact h
  | exc x e m => exact h
  | stuck => exact h
theorem Ok.ex {r : Rs α} {Q : α → MH → Prop} (h : Ok r Q) : ∃ v m, r = .ok v m ∧ Q v m := by
  cases r with
  | ok v m => exact ⟨v, m, rfl, h⟩
  | exc x m => exact h.elim
  | stuck => exact h.elim
theorem Ok.of {r : Rs α} {Q : α → MH → Prop} {v : α} {m : MH} (e : r = .ok v m) (h : Q v m) : Ok r Q := by rw [e]; exact h
theorem Os.of_nx {r : RsS} {e : Env'} {m : MH} (x : r = .nx e m) (h : N e m) : Os r N R := by rw [x]; exact h
theorem Os.of_rt {r : RsS} {v : MV} {m : MH} (x : r = .rt v m) (h : R v m) : Os r N R := by rw [x]; exact h
theorem Ok_bnd {d : Rt → Env' → MH → Rs α} {f : α → Rt → Env' → MH → Rs β} {Q : β → MH → Prop} (k : Ok (d rt env mh) fun v h => Ok (f v rt env h) Q) : Ok (bnd d f rt env mh) Q := by
  unfold bnd
  cases e : d rt env mh with
  | ok v m => rw [e] at k; exact k
  | exc x m => rw [e] at k; exact k
  | stuck => rw [e] at k; exact k
theorem Cd_t {A B : Prop} (h : A) : Cd true A B := h
theorem Cd_f {A B : Prop} (h : B) : Cd false A B := h
theorem Cd_of {k : Bool} {A B : Prop} (h1 : k = true → A) (h2 : k = false → B) : Cd k A B := by
  cases k
  · exact h2 rfl
  · exact h1 rfl
theorem Cd_pos {k : Bool} {A B : Prop} (e : k = true) (h1 : A) : Cd k A B := by rw [e]; exact h1
theorem Cd_neg {k : Bool} {A B : Prop} (e : k = false) (h1 : B) : Cd k A B := by rw [e]; exact h1
/-! ### expressions -/
theorem Ok_var {i : Nat} {v : MV} (h : env[i]? = some (some v)) (k : Q v mh) : Ok (varD i rt env mh) Q := by
  unfold varD
  rw [h]
  exact k
theorem Ok_con {v : MV} (k : Q v mh) : Ok (conD v rt env mh) Q := k
theorem Op_mk {p : Option (MV × MH)} {v : MV} {m : MH} (h : p = some (v, m)) (k : Q v m) : Op p Q := by rw [h]; exact k
theorem Ok_lft {p : Option (MV × MH)} (k : Op p Q) : Ok (lft p) Q := by
  cases p with
  | none => exact k
  | some p => exact k
theorem Ok_op1 {p : P1} (k : Ok (d rt env mh) fun v h => Op (p v h) Q) : Ok (op1D p d rt env mh) Q := Ok_bnd (k.mono fun _ _ => Ok_lft)
theorem Ok_op2 {p : P2} (k : Ok (da rt env mh) fun v h => Ok (db rt env h) fun u h => Op (p v u h) Q) : Ok (op2D p da db rt env mh) Q :=
  Ok_bnd (k.mono fun _ _ k => Ok_bnd (k.mono fun _ _ => Ok_lft))
theorem Ok_opN {p : PN} (k : Ok (dl rt env mh) fun v h => Op (p v h) Q) : Ok (opND p dl rt env mh) Q := Ok_bnd (k.mono fun _ _ => Ok_lft)
theorem Ok_nil (k : QL [] mh) : Ok (nilD rt env mh) QL := k
theorem Ok_cons (k : Ok (d rt env mh) fun v h => Ok (dl rt env h) fun vs h => QL (v :: vs) h) : Ok (consD d dl rt env mh) QL :=
  Ok_bnd (k.mono fun _ _ k => Ok_bnd k)
theorem Ok_if {Q : MV → MH → Prop} (k : Ok (c rt env mh) fun k h => Cd k (Ok (da rt env h) Q) (Ok (db rt env h) Q)) : Ok (ifD c da db rt env mh) Q :=
  Ok_bnd (k.mono fun k _ q => by cases k <;> exact q)
theorem Ok_andV (k : Ok (da rt env mh) fun v h => ∃ x, v = .bl x ∧ Cd x (Ok (db rt env h) Q) (Q (.bl false) h)) : Ok (andV da db rt env mh) Q :=
  Ok_bnd (k.mono fun v _ ⟨x, e, q⟩ => by subst e; cases x <;> exact q)
theorem Ok_orV (k : Ok (da rt env mh) fun v h => ∃ x, v = .bl x ∧ Cd x (Q (.bl true) h) (Ok (db rt env h) Q)) : Ok (orV da db rt env mh) Q :=
  Ok_bnd (k.mono fun v _ ⟨x, e, q⟩ => by subst e; cases x <;> exact q)
theorem Ok_notV (k : Ok (da rt env mh) fun v h => ∃ x, v = .bl x ∧ Q (.bl (!x)) h) : Ok (notV da rt env mh) Q :=
  Ok_bnd (k.mono fun v _ ⟨x, e, q⟩ => by subst e; exact q)
theorem ex_bl {x : Bool} {P : Bool → Prop} (h : P x) : ∃ y, MV.bl x = .bl y ∧ P y := ⟨x, rfl, h⟩
theorem Ok_chain {p p' : P2} (k : Ok (da rt env mh) fun v h => Ok (db rt env h) fun u h => Op (p v u h) fun w h => ∃ x, w = .bl x ∧ Cd x (Ok (dc rt env h) fun z h => Op (p' u z h) Q) (Q (.bl false) h)) : Ok (chainD p p' da db dc rt env mh) Q := by
  refine Ok_bnd (k.mono fun v _ k => Ok_bnd (k.mono fun u m k => ?_))
  show Ok (match p v u m with
  | some (.bl true, mh') => bnd dc (fun z _ _ mh => lft (p' u z mh)) rt env mh'
  | some (.bl false, mh') => .ok (.bl false) mh'
  | _ => .stuck) Q
  cases e : p v u m with
  | none => rw [e] at k; exact k.elim
  | some z =>
    obtain ⟨w, m2⟩ := z
    rw [e] at k
    obtain ⟨x, e2, q⟩ := k
    dsimp only at e2
    subst e2
    cases x with
    | false => exact q
    | true => exact Ok_bnd (Ok.mono q fun _ _ => Ok_lft)
/-! ### tests -/
theorem Ok_bool (k : Ok (d rt env mh) fun v h => ∃ x, v = .bl x ∧ QB x h) : Ok (boolD d rt env mh) QB :=
  Ok_bnd (k.mono fun v _ ⟨x, e, q⟩ => by subst e; exact q)
theorem Ok_tru (k : Ok (d rt env mh) fun v h => ∃ x, trM v h = some x ∧ QB x h) : Ok (truD d rt env mh) QB :=
  Ok_bnd (k.mono fun v h ⟨x, e, q⟩ => by
    show Ok (match trM v h with
      | some b => .ok b h
      | none => .stuck) QB
    rw [e]; exact q)
theorem Ok_and (k : Ok (c rt env mh) fun k h => Cd k (Ok (c2 rt env h) QB) (QB false h)) : Ok (andD c c2 rt env mh) QB :=
  Ok_bnd (k.mono fun k _ q => by cases k <;> exact q)
theorem Ok_or (k : Ok (c rt env mh) fun k h => Cd k (QB true h) (Ok (c2 rt env h) QB)) : Ok (orD c c2 rt env mh) QB :=
  Ok_bnd (k.mono fun k _ q => by cases k <;> exact q)
theorem Ok_not (k : Ok (c rt env mh) fun k h => QB (!k) h) : Ok (notD c rt env mh) QB := Ok_bnd k
theorem Ok_ifB {c2 c3 : DB} (k : Ok (c rt env mh) fun k h => Cd k (Ok (c2 rt env h) QB) (Ok (c3 rt env h) QB)) : Ok (ifB c c2 c3 rt env mh) QB :=
  Ok_bnd (k.mono fun k _ q => by cases k <;> exact q)
/-! ### calls -/
theorem Ok_call {cl : Nat → List MV → MH → Rs MV} {F i np : Nat} (k : Ok (dl ⟨cl, F⟩ env mh) fun as h => as.length = np ∧ Ok (cl i as h) Q) : Ok (callD i np dl ⟨cl, F⟩ env mh) Q :=
  Ok_bnd (k.mono fun as h ⟨e, q⟩ => by
    show Ok (if Nat.beq as.length np then cl i as h else .stuck) Q
    rw [if_pos (by rw [Nat.beq_eq]; exact e)]
    exact q)
theorem Ok_callK {cl : Nat → List MV → MH → Rs MV} {F i np n : Nat} {rest ks : List Str} (k : Ok (dl ⟨cl, F⟩ env mh) fun as h => Ok (dk ⟨cl, F⟩ env h) fun ws h => (as.length = n ∧ ws.length = ks.length ∧ (as ++ kwIn rest ks ws).length = np) ∧ Ok (cl i (as ++ kwIn rest ks ws) h) Q) : Ok (callKD i np n rest ks dl dk ⟨cl, F⟩ env mh) Q :=
  Ok_bnd (k.mono fun as h k => Ok_bnd (k.mono fun ws h ⟨⟨e1, e2, e3⟩, q⟩ => by
    show Ok (if Nat.beq as.length n && Nat.beq ws.length ks.length then (if Nat.beq (as ++ kwIn rest ks ws).length np then cl i (as ++ kwIn rest ks ws) h else .stuck) else .stuck) Q
    rw [if_pos (by rw [Bool.and_eq_true, Nat.beq_eq, Nat.beq_eq]; exact ⟨e1, e2⟩), if_pos (by rw [Nat.beq_eq]; exact e3)]
    exact q))
theorem Ok_meth {al : Alts} (k : Ok (d rt env mh) fun a h => ∃ p, pickA al a h = some p ∧ Ok (dl rt env h) fun as h => Op (p a as h) Q) : Ok (methAD al d dl rt env mh) Q :=
  Ok_bnd (k.mono fun a h ⟨p, e, k⟩ => by
    show Ok (match pickA al a h with
      | some p => bnd dl (fun as _ _ mh => lft (p a as mh)) rt env h
      | none => .stuck) Q
    rw [e]
    exact Ok_bnd (k.mono fun _ _ => Ok_lft))
theorem Ok_meth0 {al : Alts} (k : Ok (d rt env mh) fun a h => ∃ p, pickA al a h = some p ∧ Op (p a [] h) Q) : Ok (meth0D al d rt env mh) Q :=
  Ok_bnd (k.mono fun a h ⟨p, e, k⟩ => by
    show Ok (match pickA al a h with
      | some p => lft (p a [] h)
      | none => .stuck) Q
    rw [e]
    exact Ok_lft k)
theorem Ok_noPart {Q : Option Int → MH → Prop} (k : Q none mh) : Ok (noPartD rt env mh) Q := k
theorem Ok_part {Q : Option Int → MH → Prop} (k : Ok (d rt env mh) fun v h => ∃ i, v = .int i ∧ Q (some i) h) : Ok (partD d rt env mh) Q :=
  Ok_bnd (k.mono fun v h ⟨i, e, q⟩ => by subst e; exact q)
theorem ex_int {x : Int} {P : Int → Prop} (h : P x) : ∃ y, MV.int x = .int y ∧ P y := ⟨x, rfl, h⟩
theorem Ok_slice {lo hi : DO} (k : Ok (d rt env mh) fun v h => Ok (lo rt env h) fun l h => Ok (hi rt env h) fun u h => Op (sliceM v l u h) Q) : Ok (sliceD d lo hi rt env mh) Q :=
  Ok_bnd (k.mono fun v h k => Ok_bnd (k.mono fun l h k => Ok_bnd (k.mono fun u h => Ok_lft)))
/-! ### statements -/
theorem Os_toS {r : Rs α} {f : α → MH → RsS} (k : Ok r fun v h => Os (f v h) N R) : Os (toS r env f) N R := by
  cases r with
  | ok v m => exact k
  | exc x m => exact k.elim
  | stuck => exact k.elim
theorem Os_seq (k : Os (a rt env mh) (fun e h => Os (b rt e h) N R) R) : Os (seqS a b rt env mh) N R := by
  unfold seqS
  cases e : a rt env mh with
  | nx v m => rw [e] at k; exact k
  | rt v m => rw [e] at k; exact k
  | bk x m => rw [e] at k; exact k.elim
  | ct x m => rw [e] at k; exact k.elim
  | exc x e2 m => rw [e] at k; exact k.elim
  | stuck => rw [e] at k; exact k.elim
theorem Os_expr (k : Ok (d rt env mh) fun _ h => N env h) : Os (exprS d rt env mh) N R := Os_toS k
theorem Os_set {i : Nat} (k : Ok (d rt env mh) fun v h => N (env.set i (some v)) h) : Os (setS i d rt env mh) N R := Os_toS k
theorem Os_ret (k : Ok (d rt env mh) R) : Os (retS d rt env mh) N R := Os_toS k
theorem Os_retN (k : R .non mh) : Os (retNS rt env mh) N R := k
theorem Os_pass (k : N env mh) : Os (passS rt env mh) N R := k
theorem Os_if (k : Ok (c rt env mh) fun k h => Cd k (Os (a rt env h) N R) (Os (b rt env h) N R)) : Os (ifS c a b rt env mh) N R :=
  Os_toS (k.mono fun k _ q => by cases k <;> exact q)
theorem Os_asg (k : Ok (d rt env mh) fun v h => Os (g rt v env h) N R) : Os (asgS d g rt env mh) N R := Os_toS k
theorem Os_par2 {i j : Nat} (k : Ok (dl rt env mh) fun vs h => ∃ v w, vs = [v, w] ∧ N ((env.set i (some v)).set j (some w)) h) : Os (par2S i j dl rt env mh) N R :=
  Os_toS (k.mono fun vs h ⟨v, w, e, q⟩ => by subst e; exact q)
theorem ex_two {v w : MV} {P : MV → MV → Prop} (h : P v w) : ∃ v' w', [v, w] = [v', w'] ∧ P v' w' := ⟨v, w, rfl, h⟩
theorem Os_par3 {i j l : Nat} (k : Ok (dl rt env mh) fun vs h => ∃ u v w, vs = [u, v, w] ∧ N (((env.set i (some u)).set j (some v)).set l (some w)) h) : Os (par3S i j l dl rt env mh) N R :=
  Os_toS (k.mono fun vs h ⟨u, v, w, e, q⟩ => by subst e; exact q)
theorem ex_three {u v w : MV} {P : MV → MV → MV → Prop} (h : P u v w) : ∃ u' v' w', [u, v, w] = [u', v', w'] ∧ P u' v' w' := ⟨u, v, w, rfl, h⟩
theorem Os_name {i : Nat} {v : MV} (k : N (env.set i (some v)) mh) : Os (nameG i rt v env mh) N R := k
/-- a place is set -/
theorem Os_sub {v : MV} {o i : DE} (k : Ok (o rt env mh) fun a h => Ok (i rt env h) fun b h => ∃ m, stIx a b v h = some m ∧ N env m) : Os (subG o i rt v env mh) N R := by
  unfold subG
  obtain ⟨a, h, e, k⟩ := k.ex
  obtain ⟨b, h2, e2, m, e3, k⟩ := k.ex
  rw [e]; dsimp only
  rw [e2]; dsimp only
  rw [e3]
  exact k
theorem Os_nilG (k : N env mh) : Os (nilG rt [] env mh) N R := k
theorem Os_consG {v : MV} {vs : List MV} (k : Os (g rt v env mh) (fun e h => Os (gs rt vs e h) N R) fun _ _ => False) : Os (consG g gs rt (v :: vs) env mh) N R := by
  show Os (match g rt v env mh with
    | .nx e h => gs rt vs e h
    | _ => .stuck) N R
  cases e : g rt v env mh with
  | nx v m => rw [e] at k; exact k
  | rt v m => rw [e] at k; exact k.elim
  | bk x m => rw [e] at k; exact k.elim
  | ct x m => rw [e] at k; exact k.elim
  | exc x e2 m => rw [e] at k; exact k.elim
  | stuck => rw [e] at k; exact k.elim
theorem Os_tupT {n : Nat} {xs : List MV} (e : xs.length = n) (k : Os (gs rt xs env mh) N R) : Os (tupG n gs rt (.tup xs) env mh) N R := by
  show Os (if Nat.beq xs.length n then gs rt xs env mh else .stuck) N R
  rw [if_pos (by rw [Nat.beq_eq]; exact e)]; exact k
theorem Os_tupP {n : Nat} {xs : List MV} (e : xs.length = n) (k : Os (gs rt xs env mh) N R) : Os (tupG n gs rt (.pr xs) env mh) N R := by
  show Os (if Nat.beq xs.length n then gs rt xs env mh else .stuck) N R
  rw [if_pos (by rw [Nat.beq_eq]; exact e)]; exact k
theorem Os_tupL {n p : Nat} {xs : List MV} (h : mh[p]? = some (.lst xs)) (e : xs.length = n) (k : Os (gs rt xs env mh) N R) : Os (tupG n gs rt (.loc p) env mh) N R := by
  show Os (match mh[p]? with
    | some (.lst xs) => if Nat.beq xs.length n then gs rt xs env mh else .stuck
    | _ => .stuck) N R
  rw [h]
  dsimp only
  rw [if_pos (by rw [Nat.beq_eq]; exact e)]; exact k
/-! ### bodies -/
theorem Ok_body {np nl : Nat} {as : List MV} (e : as.length = np) (k : Os (b rt (as.map some ++ List.replicate (nl - np) none) mh) (fun _ h => Q .non h) Q) : Ok (bodyR b np nl rt as mh) Q := by
  unfold bodyR
  rw [if_pos (by rw [Nat.beq_eq]; exact e)]
  cases x : b rt (as.map some ++ List.replicate (nl - np) none) mh with
  | nx v m => rw [x] at k; exact k
  | rt v m => rw [x] at k; exact k
  | bk x m => rw [x] at k; exact k.elim
  | ct x m => rw [x] at k; exact k.elim
  | exc x e2 m => rw [x] at k; exact k.elim
  | stuck => rw [x] at k; exact k.elim
/-! ### loops -/
/-- a loop by what holds ahead of turn i -/
theorem Os_forL {nxt : Nxt} (I : Nat → Env' → MH → Prop) (K : Nat)
    (step : ∀ i e h, i < K → I i e h → ∃ v, nxt i h = some (some v) ∧ Os (g rt v e h) (fun e h => Os (b rt e h) (I (i + 1)) R) fun _ _ => False)
    (stop : ∀ e h, I K e h → nxt K h = some none ∧ N e h) : ∀ (m n i : Nat) (env : Env') (mh : MH), i + m = K → m < n → I i env mh → Os (forL nxt g b rt n i env mh) N R
  | 0, n + 1, i, env, mh, h1, h2, h3 => by
    obtain rfl : i = K := by omega
    obtain ⟨e1, e2⟩ := stop env mh h3
    rw [forL_end e1]
    exact e2
  | m + 1, n + 1, i, env, mh, h1, h2, h3 => by
    obtain ⟨v, e1, k⟩ := step i env mh (by omega) h3
    rw [forL, e1]
    dsimp only
    cases e : g rt v env mh with
    | nx v' m' =>
      rw [e] at k
      have k : Os (b rt v' m') (I (i + 1)) R := k
      dsimp only
      cases e2 : b rt v' m' with
      | nx v2 m2 => rw [e2] at k; exact Os_forL I K step stop m n (i + 1) v2 m2 (by omega) (by omega) k
      | rt v2 m2 => rw [e2] at k; exact k
      | bk v2 m2 => rw [e2] at k; exact k.elim
      | ct v2 m2 => rw [e2] at k; exact k.elim
      | exc x v2 m2 => rw [e2] at k; exact k.elim
      | stuck => rw [e2] at k; exact k.elim
    | rt v2 m2 => rw [e] at k; exact k.elim
    | bk v2 m2 => rw [e] at k; exact k.elim
    | ct v2 m2 => rw [e] at k; exact k.elim
    | exc x v2 m2 => rw [e] at k; exact k.elim
    | stuck => rw [e] at k; exact k.elim
theorem Os_for {di : DI} (k : Ok (di rt env mh) fun nxt h => Os (forL nxt g b rt rt.fuel 0 env h) N R) : Os (forS di g b rt env mh) N R := Os_toS k
/-- a loop over a list xs that stays: its turns by the items -/
theorem Os_forX {nxt : Nxt} {xs : List MV} (I : Nat → Env' → MH → Prop) (hx : ∀ i e h, I i e h → nxt i h = some xs[i]?)
    (step : ∀ i e h v, xs[i]? = some v → I i e h → Os (g rt v e h) (fun e h => Os (b rt e h) (I (i + 1)) R) fun _ _ => False)
    (stop : ∀ e h, I xs.length e h → N e h) (n : Nat) (hn : xs.length < n) (h0 : I 0 env mh) : Os (forL nxt g b rt n 0 env mh) N R :=
  Os_forL I xs.length (fun i e h hi hI => by
    refine ⟨xs[i], by rw [hx i e h hI]; simp [hi], step i e h _ (by simp [hi]) hI⟩) (fun e h hI => ⟨by rw [hx _ e h hI]; simp, stop e h hI⟩) xs.length n 0 env mh (by omega) hn h0
/-- a while loop by a measure -/
theorem Os_whileL (I : Nat → Env' → MH → Prop)
    (step : ∀ m e h, I m e h → Ok (c rt e h) fun k h => Cd k (Os (b rt e h) (fun e h => ∃ m', m' < m ∧ I m' e h) R) (N e h)) : ∀ (n m : Nat) (env : Env') (mh : MH), m < n → I m env mh → Os (whileL c b rt n env mh) N R
  | n + 1, m, env, mh, h1, h2 => by
    obtain ⟨k, h, e, q⟩ := (step m env mh h2).ex
    rw [whileL, e]
    dsimp only [toS]
    cases k with
    | false => exact q
    | true =>
      have q : Os (b rt env h) (fun e h => ∃ m', m' < m ∧ I m' e h) R := q
      dsimp only
      cases e2 : b rt env h with
      | nx v2 m2 =>
        rw [e2] at q
        obtain ⟨m', h3, h4⟩ := q
        exact Os_whileL I step n m' v2 m2 (by omega) h4
      | rt v2 m2 => rw [e2] at q; exact q
      | bk v2 m2 => rw [e2] at q; exact q.elim
      | ct v2 m2 => rw [e2] at q; exact q.elim
      | exc x v2 m2 => rw [e2] at q; exact q.elim
      | stuck => rw [e2] at q; exact q.elim
theorem Os_while (k : Os (whileL c b rt rt.fuel env mh) N R) : Os (whileS c b rt env mh) N R := k
/-! ### what is walked -/
theorem Ok_any {QN : Nxt → MH → Prop} (k : Ok (d rt env mh) fun v h => ∃ nx, (match v with
  | .loc n => match h[n]? with
    | some (.lst _) => some (nxtL n)
    | _ => none
  | .tup xs => some (nxtX xs)
  | .fl xs => some (nxtX xs)
  | .str cs => some (nxtS cs)
  | _ => none) = some nx ∧ QN nx h) : Ok (anyI d rt env mh) QN := by
  refine Ok_bnd (k.mono fun v h ⟨nx, e, q⟩ => ?_)
  cases v with
  | loc n =>
    dsimp only at e ⊢
    cases z : h[n]? with
    | none => rw [z] at e; cases e
    | some o =>
      rw [z] at e
      cases o with
      | dct _ => cases e
      | lst xs => cases e; exact q
  | tup xs => cases e; exact q
  | fl xs => cases e; exact q
  | str xs => cases e; exact q
  | _ => cases e
theorem Ok_rng1 {QN : Nxt → MH → Prop} (k : Ok (dl rt env mh) fun vs h => ∃ j, vs = [.int j] ∧ Vf.inR j = true ∧ QN (nxtR 0 j.toNat) h) : Ok (rng1I dl rt env mh) QN :=
  Ok_bnd (k.mono fun vs h ⟨j, e, e2, q⟩ => by
    subst e
    show Ok (if Vf.inR j then .ok (nxtR 0 j.toNat) h else .stuck) QN
    rw [if_pos e2]; exact q)
theorem Ok_rng2 {QN : Nxt → MH → Prop} (k : Ok (dl rt env mh) fun vs h => ∃ i j, vs = [.int i, .int j] ∧ Vf.inR i = true ∧ Vf.inR j = true ∧ QN (nxtR i (j - i).toNat) h) : Ok (rng2I dl rt env mh) QN :=
  Ok_bnd (k.mono fun vs h ⟨i, j, e, e2, e3, q⟩ => by
    subst e
    show Ok (if Vf.inR i && Vf.inR j then .ok (nxtR i (j - i).toNat) h else .stuck) QN
    rw [if_pos (by rw [e2, e3]; rfl)]; exact q)
theorem Ok_enum {QN : Nxt → MH → Prop} (k : Ok (dl rt env mh) fun vs h => ∃ v xs, vs = [v] ∧ srcL v h = some xs ∧ QN (nxtE v) h) : Ok (enumI dl rt env mh) QN :=
  Ok_bnd (k.mono fun vs h ⟨v, xs, e, e2, q⟩ => by
    subst e
    show Ok (match srcL v h with
      | some _ => .ok (nxtE v) h
      | none => .stuck) QN
    rw [e2]; exact q)
theorem Ok_zip {QN : Nxt → MH → Prop} (k : Ok (dl rt env mh) fun vs h => ∃ v w xs ys, vs = [v, w] ∧ srcL v h = some xs ∧ srcL w h = some ys ∧ QN (nxtZ v w) h) : Ok (zipI dl rt env mh) QN :=
  Ok_bnd (k.mono fun vs h ⟨v, w, xs, ys, e, e2, e3, q⟩ => by
    subst e
    show Ok (match srcL v h, srcL w h with
      | some _, some _ => .ok (nxtZ v w) h
      | _, _ => .stuck) QN
    rw [e2, e3]; exact q)
/-! ### comprehensions -/
theorem Ok_lc {di : DI} {own : List Nat} {tt : DB} {te : DE} (k : Ok (di rt env mh) fun nxt h => ∃ xs m, lcL nxt g tt te rt (wipeE env own) rt.fuel 0 [] h = some (xs, m) ∧ Q (.loc m.length) (m ++ [.lst xs])) : Ok (lcD di own g tt te rt env mh) Q :=
  Ok_bnd (k.mono fun nxt h ⟨xs, m, e, q⟩ => by
    show Ok (match lcL nxt g tt te rt (wipeE env own) rt.fuel 0 [] h with
      | some (acc, h) => .ok (.loc h.length) (h ++ [.lst acc])
      | none => .stuck) Q
    rw [e]; exact q)
/-- a comprehension by what holds ahead of turn i of what is made so far -/
theorem lc_run {nxt : Nxt} {tt : DB} {te : DE} (I : Nat → List MV → MH → Prop) (K : Nat) (hK : K ≤ 16777216)
    (step : ∀ i acc h, i < K → I i acc h → ∃ v, nxt i h = some (some v) ∧ Os (g rt v env h) (fun e h => Ok (tt rt e h) fun k h => Cd k (Ok (te rt e h) fun y h => I (i + 1) (acc ++ [y]) h) (I (i + 1) acc h)) fun _ _ => False)
    (stop : ∀ acc h, I K acc h → nxt K h = some none) : ∀ (m n i : Nat) (acc : List MV) (mh : MH), i + m = K → m < n → I i acc mh → ∃ xs m, lcL nxt g tt te rt env n i acc.reverse mh = some (xs, m) ∧ I K xs m
  | 0, n + 1, i, acc, mh, h1, h2, h3 => by
    obtain rfl : i = K := by omega
    refine ⟨acc, mh, ?_, h3⟩
    rw [lcL, stop acc mh h3]
    dsimp only
    rw [List.reverse_reverse]
  | m + 1, n + 1, i, acc, mh, h1, h2, h3 => by
    obtain ⟨v, e1, k⟩ := step i acc mh (by omega) h3
    rw [lcL, e1]
    dsimp only
    cases e : g rt v env mh with
    | nx e1 m1 =>
      rw [e] at k
      obtain ⟨kk, h4, e4, k⟩ := Ok.ex k
      dsimp only
      rw [e4]
      cases kk with
      | true =>
        obtain ⟨y, h5, e5, k⟩ := Ok.ex k
        dsimp only
        rw [e5]
        dsimp only
        rw [if_pos (by rw [Nat.blt_eq]; show i < 16777216; omega)]
        have := lc_run I K hK step stop m n (i + 1) (acc ++ [y]) h5 (by omega) (by omega) k
        rwa [List.reverse_append] at this
      | false =>
        dsimp only
        exact lc_run I K hK step stop m n (i + 1) acc h4 (by omega) (by omega) k
    | rt v2 m2 => rw [e] at k; exact k.elim
    | bk v2 m2 => rw [e] at k; exact k.elim
    | ct v2 m2 => rw [e] at k; exact k.elim
    | exc x v2 m2 => rw [e] at k; exact k.elim
    | stuck => rw [e] at k; exact k.elim
/-! ### dict displays -/
theorem Ok_dnew (k : Q (.loc mh.length) (mh ++ [.dct []])) : Ok (dnewD rt env mh) Q := k
theorem Ok_disp {t : DP} (k : Ok (t rt env (mh ++ [.dct []])) fun ps h => h[mh.length]? = some (.dct []) ∧ (ps.all (fun p => isKeyM p.1) && Nat.ble ps.length 15) = true ∧ Q (.loc mh.length) (h.set mh.length (.dct (dmerge [] ps)))) : Ok (dispD t rt env mh) Q := by
  obtain ⟨ps, h, e, e1, e2, q⟩ := k.ex
  unfold dispD
  rw [e]
  dsimp only
  rw [e1]
  dsimp only
  rw [if_pos e2]
  exact q
theorem Ok_pnil {Q : List (MV × MV) → MH → Prop} (k : Q [] mh) : Ok (pnilD rt env mh) Q := k
theorem Ok_pcons {Q : List (MV × MV) → MH → Prop} {t : DP} (k : Ok (da rt env mh) fun x h => Ok (db rt env h) fun y h => Ok (t rt env h) fun ps h => Q ((x, y) :: ps) h) : Ok (pconsD da db t rt env mh) Q :=
  Ok_bnd (k.mono fun _ _ k => Ok_bnd (k.mono fun _ _ k => Ok_bnd k))
end
end Vf
end L2
end
section
/-! VX: heaps that go on; data that is small; sorted sets. -/
namespace L2
namespace Vf
open PySem PySem.Spec PyProof.Rows
/-! ### heaps -/
/-- h goes on from mh -/
structure Pre (mh h : MH) : Prop where
  le : mh.length ≤ h.length
  keep : ∀ q, q < mh.length → h[q]? = mh[q]?
section
variable {mh h h2 : MH} {n p : Nat} {o : MO}
theorem Pre.refl : Pre mh mh := ⟨Nat.le_refl _, fun _ _ => rfl⟩
theorem Pre.trans (a : Pre mh h) (b : Pre h h2) : Pre mh h2 := ⟨Nat.le_trans a.le b.le, fun q hq => (b.keep q (Nat.lt_of_lt_of_le hq a.le)).trans (a.keep q hq)⟩
theorem lt_of_get (e : mh[n]? = some o) : n < mh.length := (List.getElem?_eq_some_iff.mp e).1
theorem Pre.get (a : Pre mh h) (e : mh[n]? = some o) : h[n]? = some o := by rw [a.keep n (lt_of_get e)]; exact e
theorem Pre.app (l : MH) : Pre mh (mh ++ l) := ⟨by simp, fun q hq => List.getElem?_append_left hq⟩
theorem Pre.snoc (a : Pre mh h) (o : MO) : Pre mh (h ++ [o]) := a.trans (.app _)
theorem Pre.set (a : Pre mh h) (hp : mh.length ≤ p) : Pre mh (h.set p o) := ⟨by rw [List.length_set]; exact a.le, fun q hq => by rw [List.getElem?_set_ne (by omega)]; exact a.keep q hq⟩
theorem get_new (m : MH) (o : MO) : (m ++ [o])[m.length]? = some o := by simp
theorem get_old {x : MO} (e : mh[n]? = some o) : (mh ++ [x])[n]? = some o := by rw [List.getElem?_append_left (lt_of_get e)]; exact e
theorem get_set {x : MO} (e : mh[n]? = some o) : (mh.set n x)[n]? = some x := List.getElem?_set_self (lt_of_get e)
theorem get_other {x : MO} (e : mh[n]? = some o) (hn : p ≠ n) : (mh.set p x)[n]? = some o := by rw [List.getElem?_set_ne hn]; exact e
end
/-- h goes on from mh, but for what stands at p -/
structure Pre1 (p : Nat) (mh h : MH) : Prop where
  le : mh.length ≤ h.length
  keep : ∀ q, q < mh.length → q ≠ p → h[q]? = mh[q]?
section
variable {mh h h2 : MH} {n p : Nat} {o : MO}
theorem Pre1.refl : Pre1 p mh mh := ⟨Nat.le_refl _, fun _ _ _ => rfl⟩
theorem Pre1.trans (a : Pre1 p mh h) (b : Pre1 p h h2) : Pre1 p mh h2 := ⟨Nat.le_trans a.le b.le, fun q hq n => (b.keep q (Nat.lt_of_lt_of_le hq a.le) n).trans (a.keep q hq n)⟩
theorem Pre.one (a : Pre mh h) : Pre1 p mh h := ⟨a.le, fun q hq _ => a.keep q hq⟩
theorem Pre1.get (a : Pre1 p mh h) (e : mh[n]? = some o) (hn : n ≠ p) : h[n]? = some o := by rw [a.keep n (lt_of_get e) hn]; exact e
theorem Pre1.whole (a : Pre1 p mh h) (hp : mh.length ≤ p) : Pre mh h := ⟨a.le, fun q hq => a.keep q hq (by omega)⟩
theorem Pre1.snoc (a : Pre1 p mh h) (o : MO) : Pre1 p mh (h ++ [o]) := a.trans (Pre.app _).one
theorem Pre1.put (a : Pre1 p mh h) (o : MO) : Pre1 p mh (h.set p o) := ⟨by rw [List.length_set]; exact a.le, fun q hq n => by rw [List.getElem?_set_ne (Ne.symm n)]; exact a.keep q hq n⟩
theorem Pre1.set {r : Nat} (a : Pre1 p mh h) (hr : mh.length ≤ r) (o : MO) : Pre1 p mh (h.set r o) := ⟨by rw [List.length_set]; exact a.le, fun q hq n => by rw [List.getElem?_set_ne (by omega)]; exact a.keep q hq n⟩
end
/-! ### primitives -/
section
variable {mh : MH} {n : Nat} {xs : List MV} {kvs : List (MV × MV)} {Q : MV → MH → Prop} {v y d : MV}
theorem Op_same {p : P2} {a b : MV} (e : p a b mh = some (v, mh)) (k : Q v mh) : Op (p a b mh) Q := by rw [e]; exact k
theorem pick_dct (e : mh[n]? = some (.dct kvs)) : pickA [(isDctM, getDM)] (.loc n) mh = some getDM := by
  simp only [pickA, isDctM, kvOf, e, Option.isSome_some, if_true]
theorem pick_lst {pm : PM} {r : Alts} (e : mh[n]? = some (.lst xs)) : pickA ((isLstM, pm) :: r) (.loc n) mh = some pm := by
  simp only [pickA, isLstM, e, if_true]
theorem Op_getD {m : MV} (e : mh[n]? = some (.dct kvs)) (hy : isKeyM y = true) (e2 : (dfind kvs y).getD d = m) (k : Q m mh) : Op (getDM (.loc n) [y, d] mh) Q := by
  subst e2
  unfold getDM
  simp only [kvOf, e, hy, if_true]
  cases z : dfind kvs y with
  | none => rw [z] at k; exact k
  | some w => rw [z] at k; exact k
theorem Op_getS {m : MV} (e : mh[n]? = some (.dct kvs)) (hy : isKeyM y = true) (e2 : dfind kvs y = some m) (k : Q m mh) : Op (getDM (.loc n) [y, d] mh) Q := Op_getD e hy (by rw [e2]; rfl) k
theorem Op_getN (e : mh[n]? = some (.dct kvs)) (hy : isKeyM y = true) (e2 : dfind kvs y = none) (k : Q d mh) : Op (getDM (.loc n) [y, d] mh) Q := Op_getD e hy (by rw [e2]; rfl) k
theorem dfind_keys (ks : List Int) (y : Int) (w : MV) : (dfind (ks.map fun k => (MV.int k, w)) (.int y)).isSome = decide (y ∈ ks) := by
  induction ks with
  | nil => rfl
  | cons k ks ih =>
    rw [List.map_cons, dfind]
    by_cases h : k = y
    · subst h; simp [keqM]
    · have : keqM (.int k) (.int y) = false := by simp [keqM, h]
      rw [this, if_neg (by simp), ih]
      simp [Ne.symm h]
theorem dany_keys (ks : List Int) (y : Int) (w : MV) : dany (ks.map fun k => (MV.int k, w)) (.int y) = decide (y ∈ ks) := by
  induction ks with
  | nil => rfl
  | cons k ks ih =>
    rw [List.map_cons, dany, ih]
    by_cases h : k = y
    · subst h; simp [keqM]
    · simp [keqM, h, Ne.symm h]
theorem Op_notinD (e : mh[n]? = some (.dct kvs)) (hy : isKeyM y = true) (k : Q (.bl (!(dfind kvs y).isSome)) mh) : Op (notinM y (.loc n) mh) Q := by
  have h : inD mh y (.loc n) = some (dfind kvs y).isSome := by
    simp only [inD, kvOf, e, hy, if_true]
  have h2 : inB mh y (.loc n) = some (dfind kvs y).isSome := by
    unfold inB
    split
    · rename_i q; cases q
    · exact h
  unfold notinM
  rw [h2]
  exact k
theorem stIx_d (e : mh[n]? = some (.dct kvs)) (hy : isKeyM y = true) (hl : kvs.length < 16777216) : stIx (.loc n) y v mh = some (mh.set n (.dct (dputM kvs y v))) := by
  unfold stIx
  simp only [e]
  rw [if_pos (by rw [hy, Bool.true_and, Nat.blt_eq]; exact hl)]
theorem Op_append (e : mh[n]? = some (.lst xs)) (hl : xs.length < 16777216) (k : Q .non (mh.set n (.lst (xs ++ [v])))) : Op (appendM (.loc n) [v] mh) Q := by
  unfold appendM
  simp only [e]
  rw [if_pos (by rw [Nat.blt_eq]; exact hl)]
  exact k
theorem Op_extend {m : Nat} {ys : List MV} (e : mh[n]? = some (.lst xs)) (e2 : mh[m]? = some (.lst ys)) (hl : xs.length + ys.length ≤ 16777216) (k : Q .non (mh.set n (.lst (xs ++ ys)))) : Op (extendM (.loc n) [.loc m] mh) Q := by
  unfold extendM
  simp only [e, e2]
  rw [if_pos (by rw [Nat.ble_eq]; exact hl)]
  exact k
theorem Op_len (e : mh[n]? = some (.lst xs)) (k : Q (.int xs.length) mh) : Op (lenN [.loc n] mh) Q := by
  unfold lenN lenM
  simp only [e]
  exact k
theorem Op_ix {i : Nat} (e : mh[n]? = some (.lst xs)) (e2 : xs[i]? = some v) (k : Q v mh) : Op (ixM (.loc n) (.int (i : Nat)) mh) Q := by
  unfold ixM
  simp only [e, getM_nat, e2]
  exact k
theorem Op_ixT {i : Nat} (e2 : xs[i]? = some v) (k : Q v mh) : Op (ixM (.tup xs) (.int (i : Nat)) mh) Q := by
  unfold ixM
  simp only [getM_nat, e2]
  exact k
theorem Op_ixLast {ys : List MV} (e : xs = ys ++ [v]) (k : Q v mh) : Op (ixM (.tup xs) (.int (-1)) mh) Q := by
  subst e
  have h : ixM (.tup (ys ++ [v])) (.int (-1)) mh = some (v, mh) := by
    show (match (if Nat.ble (0 + 1) (ys ++ [v]).length then (ys ++ [v])[(ys ++ [v]).length - (0 + 1)]? else none) with
      | some v => some (v, mh)
      | none => none) = _
    rw [if_pos (by rw [Nat.ble_eq]; simp)]
    simp
  rw [h]
  exact k
theorem Op_ixLastL {ys : List MV} (e : mh[n]? = some (.lst (ys ++ [v]))) (k : Q v mh) : Op (ixM (.loc n) (.int (-1)) mh) Q := by
  have h : ixM (.loc n) (.int (-1)) mh = some (v, mh) := by
    unfold ixM
    simp only [e]
    show (match (if Nat.ble (0 + 1) (ys ++ [v]).length then (ys ++ [v])[(ys ++ [v]).length - (0 + 1)]? else none) with
      | some v => some (v, mh)
      | none => none) = _
    rw [if_pos (by rw [Nat.ble_eq]; simp)]
    simp
  rw [h]
  exact k
theorem Op_lst {as : List MV} (hl : as.length ≤ 16777216) (k : Q (.loc mh.length) (mh ++ [.lst as])) : Op (lstM as mh) Q := by
  unfold lstM
  rw [if_pos (by rw [Nat.ble_eq]; exact hl)]
  exact k
theorem Op_tup {as : List MV} (hl : as.length ≤ 16777216) (k : Q (.tup as) mh) : Op (tupM as mh) Q := by
  unfold tupM
  rw [if_pos (by rw [Nat.ble_eq]; exact hl)]
  exact k
theorem Op_tuple (e : mh[n]? = some (.lst xs)) (k : Q (.tup xs) mh) : Op (tupleN [.loc n] mh) Q := by
  unfold tupleN
  simp only [e]
  exact k
theorem Op_all {b : Bool} (e : mh[n]? = some (.lst xs)) (e2 : allB xs = some b) (k : Q (.bl b) mh) : Op (allN [.loc n] mh) Q := by
  unfold allN
  simp only [e, e2]
  exact k
theorem Op_cat {m : Nat} {ys : List MV} (e : mh[n]? = some (.lst xs)) (e2 : mh[m]? = some (.lst ys)) (hl : xs.length + ys.length ≤ 16777216) (k : Q (.loc mh.length) (mh ++ [.lst (xs ++ ys)])) : Op (addM (.loc n) (.loc m) mh) Q := by
  unfold addM
  simp only [e, e2]
  rw [if_pos (by rw [Nat.ble_eq]; exact hl)]
  exact k
theorem Op_srtset {ns : List Int} (e : mh[n]? = some (.lst (ns.map .int))) (hl : ns.length < 64) (k : Q (.loc mh.length) (mh ++ [.lst ((ssort ns).map .int)])) : Op (srtSetM (.loc n) mh) Q := by
  unfold srtSetM
  simp only [e, intsM_map]
  rw [if_pos (by rw [Nat.blt_eq]; exact hl)]
  exact k
theorem Op_lenset {l : Nat} (e : mh[n]? = some (.lst xs)) (hk : keysM xs = true) (hl : xs.length + 1 < 4096) (hd : (dedM [] xs).length = l := by rfl) (k : Q (.int l) mh) : Op (lenSetM (.loc n) mh) Q := by
  subst hd
  unfold lenSetM
  simp only [e]
  rw [if_pos (by rw [Bool.and_eq_true, Nat.blt_eq]; exact ⟨hk, hl⟩)]
  exact k
theorem Op_pop (e : mh[n]? = some (.lst (xs ++ [v]))) (k : Q v (mh.set n (.lst xs))) : Op (popM (.loc n) [] mh) Q := by
  unfold popM
  simp only [e]
  have e1 : (xs ++ [v])[(xs ++ [v]).length - 1]? = some v := by simp
  simp only [e1, List.dropLast_concat]
  exact k
theorem Op_sortedD {ns : List Int} (e : mh[n]? = some (.dct kvs)) (e2 : kvs.map (·.1) = ns.map .int) (hl : ns.length < 64) (k : Q (.loc mh.length) (mh ++ [.lst ((isort ns).map .int)])) : Op (sortedN [.loc n] mh) Q := by
  unfold sortedN
  simp only [e, e2, intsM_map]
  rw [if_pos (by rw [Nat.blt_eq]; exact hl)]
  exact k
theorem srt_lt_uniq {a b : List Int} (ha : a.Pairwise (· < ·)) (hb : b.Pairwise (· < ·)) (h : ∀ z, z ∈ a ↔ z ∈ b) : a = b := by
  induction a generalizing b with
  | nil =>
    cases b with
    | nil => rfl
    | cons y b => exact absurd ((h y).mpr List.mem_cons_self) (by simp)
  | cons x a ih =>
    cases b with
    | nil => exact absurd ((h x).mp List.mem_cons_self) (by simp)
    | cons y b =>
      obtain ⟨a1, a2⟩ := List.pairwise_cons.mp ha
      obtain ⟨b1, b2⟩ := List.pairwise_cons.mp hb
      have hxy : x = y := by
        rcases List.mem_cons.mp ((h x).mp List.mem_cons_self) with e | e
        · exact e
        · rcases List.mem_cons.mp ((h y).mpr List.mem_cons_self) with e2 | e2
          · exact e2.symm
          · have := a1 _ e2
            have := b1 _ e
            omega
      subst hxy
      congr 1
      refine ih a2 b2 fun z => ⟨fun hz => ?_, fun hz => ?_⟩
      · rcases List.mem_cons.mp ((h z).mp (List.mem_cons_of_mem _ hz)) with e | e
        · have := a1 _ hz; omega
        · exact e
      · rcases List.mem_cons.mp ((h z).mpr (List.mem_cons_of_mem _ hz)) with e | e
        · have := b1 _ hz; omega
        · exact e
theorem isort_nodup {ns : List Int} (h : ns.Nodup) : isort ns = ssort ns := by
  refine srt_lt_uniq ?_ (ssort_srt ns) fun z => ?_
  · have h1 := isort_srt ns
    have h2 : (isort ns).Nodup := (isort_perm ns).nodup_iff.mpr h
    have h3 : (isort ns).Pairwise fun a b => a ≤ b ∧ a ≠ b := h1.and h2
    exact h3.imp fun ⟨p, q⟩ => by omega
  · rw [(isort_perm ns).mem_iff, ssort_mem]
theorem nxtL_at (e : mh[n]? = some (.lst xs)) (i : Nat) : nxtL n i mh = some xs[i]? := by
  unfold nxtL; rw [e]
theorem nxtR_at (lo : Int) (k i : Nat) : nxtR lo k i mh = if i < k then some (some (.int (lo + i))) else some none := by
  unfold nxtR
  by_cases hi : i < k
  · rw [if_pos (by rw [Nat.blt_eq]; exact hi), if_pos hi]
  · rw [if_neg (by rw [Nat.blt_eq]; exact hi), if_neg hi]
theorem inR_nat {n : Nat} (h : n < 4611686018427387904) : Vf.inR (n : Int) = true := by
  unfold Vf.inR
  rw [Nat.blt_eq]
  omega
theorem beqL_self (a : List Nat) : beqL a a = true := by rw [beqL_iff]; simp
theorem Op_neStr {a : List Nat} (k : Q (.bl false) mh) : Op (neM (.str a) (.str a) mh) Q := by
  simp only [neM, eqB, beqL_self]
  exact k
theorem Op_eqStr {a : List Nat} (k : Q (.bl true) mh) : Op (eqM (.str a) (.str a) mh) Q := by
  simp only [eqM, eqB, beqL_self]
  exact k
end
/-! ### small data -/
structure Small (d : PyData) (dp w : Nat) : Prop where
  sh : d.showable = true
  nd : d.hasDict = false
  dep : d.depth ≤ dp
  sho : d.leavesShort 20 = true
  wt : d.weight ≤ w
/-- v is the datum d, at k steps -/
def Dat (mh : MH) (v : MV) (d : PyData) (k : Nat) : Prop := ∀ n, k ≤ n → fz mh n v = some d
def Dats (mh : MH) (vs : List MV) (ds : List PyData) (k : Nat) : Prop := ∀ n, k ≤ n → mapO (fz mh n) vs = some ds
section
variable {mh h : MH} {n k k2 p : Nat} {o : MO} {v : MV} {vs : List MV} {d : PyData} {ds : List PyData} {Q : MV → MH → Prop}
theorem Dat.le (a : Dat mh v d k) (hk : k ≤ k2) : Dat mh v d k2 := fun n hn => a n (by omega)
theorem Dats.le (a : Dats mh vs ds k) (hk : k ≤ k2) : Dats mh vs ds k2 := fun n hn => a n (by omega)
theorem Dat.int (i : Int) : Dat mh (.int i) (.int i) 0 := fun n _ => by unfold fz; rfl
theorem Dat.bl (i : Bool) : Dat mh (.bl i) (.bool i) 0 := fun n _ => by unfold fz; rfl
theorem Dat.non : Dat mh .non .none 0 := fun n _ => by unfold fz; rfl
theorem Dat.str (s : List Nat) : Dat mh (.str s) (.str (S s)) 0 := fun n _ => by unfold fz; rfl
theorem Dats.nil : Dats mh [] [] k := fun n _ => rfl
theorem Dats.cons (a : Dat mh v d k) (b : Dats mh vs ds k) : Dats mh (v :: vs) (d :: ds) k := fun n hn => by rw [mapO, a n hn, b n hn]
theorem Dat.tup (a : Dats mh vs ds k) : Dat mh (.tup vs) (.tuple ds) (k + 1) := fun n hn => by
  obtain ⟨m, rfl⟩ : ∃ m, n = m + 1 := ⟨n - 1, by omega⟩
  unfold fz
  rw [a m (by omega)]
theorem Dat.lst (e : mh[p]? = some (.lst vs)) (a : Dats mh vs ds k) : Dat mh (.loc p) (.list ds) (k + 1) := fun n hn => by
  obtain ⟨m, rfl⟩ : ∃ m, n = m + 1 := ⟨n - 1, by omega⟩
  unfold fz
  rw [e]
  dsimp only
  rw [a m (by omega)]
theorem Dats.map {α : Type} {f : α → MV} {g : α → PyData} : ∀ {xs : List α}, (∀ x ∈ xs, Dat mh (f x) (g x) k) → Dats mh (xs.map f) (xs.map g) k
  | [], _ => .nil
  | x :: xs, h => .cons (h x List.mem_cons_self) (Dats.map fun y hy => h y (List.mem_cons_of_mem _ hy))
theorem Dats.ints (ns : List Int) : Dats mh (ns.map .int) (ns.map .int) 0 := Dats.map fun x _ => .int x
theorem Small.le {dp w dp2 w2 : Nat} (a : Small d dp w) (h1 : dp ≤ dp2) (h2 : w ≤ w2) : Small d dp2 w2 := ⟨a.sh, a.nd, Nat.le_trans a.dep h1, a.sho, Nat.le_trans a.wt h2⟩
theorem Small.non : Small .none 0 0 := ⟨rfl, rfl, by decide, rfl, by decide⟩
theorem Small.bl (b : Bool) : Small (.bool b) 0 0 := by cases b <;> exact ⟨rfl, rfl, by decide, rfl, by decide⟩
theorem int_short : ∀ i : Nat, i < 1000 → (PyData.shown (.int (i : Int))).length ≤ 20 ∧ (PyData.shown (.int (-(i : Int)))).length ≤ 20 := by decide +kernel
theorem log_small {i : Nat} (h : i < 1000) : i.log2 < 10 := by
  by_cases h0 : i = 0
  · subst h0; decide
  · exact (Nat.log2_lt h0).mpr (by omega)
theorem Small.int {i : Int} (hi : i.natAbs < 1000) : Small (.int i) 0 10 := by
  have h2 := log_small hi
  refine ⟨?_, by simp [PyData.hasDict], by simp [PyData.depth], ?_, ?_⟩
  · simp only [PyData.showable, decide_eq_true_eq]; omega
  · simp only [PyData.leavesShort, decide_eq_true_eq]
    have := int_short i.natAbs hi
    rcases Int.natAbs_eq i with e | e
    · rw [e]; exact this.1
    · rw [e]; exact this.2
  · simp only [PyData.weight]
    split
    · omega
    · omega
theorem Small.str {s : List Nat} (h : ∀ c ∈ s, c < 1114112) : Small (.str (S s)) 0 s.length := by
  refine ⟨rfl, rfl, by simp [PyData.depth], ?_, ?_⟩
  · simp only [PyData.leavesShort, S_cps, List.all_eq_true, decide_eq_true_eq]
    exact fun c hc => Nat.lt_trans (h c hc) (by decide)
  · simp [PyData.weight, S]
/-- many -/
structure Smalls (ds : List PyData) (dp w : Nat) : Prop where
  sh : PyData.showableAll ds = true
  nd : PyData.hasDictAll ds = false
  dep : PyData.depthAll ds ≤ dp
  sho : PyData.leavesShortAll 20 ds = true
  wt : PyData.weightAll ds ≤ w
theorem Smalls.nil : Smalls [] 0 0 := ⟨rfl, rfl, by decide, rfl, by decide⟩
theorem Smalls.cons {dp w dp2 w2 : Nat} (a : Small d dp w) (b : Smalls ds dp2 w2) : Smalls (d :: ds) (max dp dp2) (w + 1 + w2) := by
  refine ⟨?_, ?_, ?_, ?_, ?_⟩
  · simp only [PyData.showableAll, a.sh, b.sh, Bool.and_self]
  · simp only [PyData.hasDictAll, a.nd, b.nd, Bool.or_self]
  · simp only [PyData.depthAll]
    have := a.dep
    have := b.dep
    omega
  · simp only [PyData.leavesShortAll, a.sho, b.sho, Bool.and_self]
  · simp only [PyData.weightAll]
    have := a.wt
    have := b.wt
    omega
theorem Smalls.all {dp w : Nat} : ∀ {ds : List PyData}, (∀ d ∈ ds, Small d dp w) → Smalls ds dp (ds.length * (w + 1))
  | [], _ => ⟨rfl, rfl, by simp [PyData.depthAll], rfl, by simp [PyData.weightAll]⟩
  | d :: ds, h => by
    have a := h d List.mem_cons_self
    have b := Smalls.all (ds := ds) fun x hx => h x (List.mem_cons_of_mem _ hx)
    have c := Smalls.cons a b
    refine ⟨c.sh, c.nd, by have := c.dep; omega, c.sho, ?_⟩
    have := c.wt
    rw [List.length_cons, Nat.add_mul, Nat.one_mul]
    omega
theorem Small.tup {dp w : Nat} (a : Smalls ds dp w) : Small (.tuple ds) (dp + 1) w := by
  refine ⟨?_, ?_, ?_, ?_, ?_⟩
  · simp only [PyData.showable, a.sh]
  · simp only [PyData.hasDict, a.nd]
  · simp only [PyData.depth]; have := a.dep; omega
  · simp only [PyData.leavesShort, a.sho]
  · simp only [PyData.weight]; exact a.wt
theorem Small.lst {dp w : Nat} (a : Smalls ds dp w) : Small (.list ds) (dp + 1) w := by
  refine ⟨?_, ?_, ?_, ?_, ?_⟩
  · simp only [PyData.showable, a.sh]
  · simp only [PyData.hasDict, a.nd]
  · simp only [PyData.depth]; have := a.dep; omega
  · simp only [PyData.leavesShort, a.sho]
  · simp only [PyData.weight]; exact a.wt
/-- its text -/
abbrev shw (d : PyData) : MV := .str d.shown.cps.toList
theorem Op_repr {dp w : Nat} (hr : isRefM v = true) (a : Dat mh v d k) (hk : k ≤ 60) (b : Small d dp w) (h1 : dp ≤ 64) (h2 : w ≤ 700000) (q : Q (shw d) mh) : Op (reprN [v] mh) Q := by
  have h := PyData.shown_le 20 (by decide) d b.sho
  have e := a 60 hk
  have := b.wt
  have := b.dep
  unfold reprN
  dsimp only
  rw [if_pos hr, e]
  dsimp only
  rw [if_pos (by
    rw [b.sh, b.nd]
    simp only [Bool.not_false, Bool.true_and, Bool.and_eq_true, Nat.ble_eq]
    exact ⟨by omega, by show _ ≤ 16777216; omega⟩)]
  exact q
/-! ### equal data -/
/-- of a plain kind: two lists, two tuples, .. -/
def plainEq : MV → MV → Bool
  | .int _, .int _ => false
  | .str _, .str _ => false
  | _, _ => true
theorem eqB_dat {v u : MV} {e : PyData} {mh : MH} (hp : plainEq v u = true) (a : Dat mh v d k) (b : Dat mh u e k2) (hk : k ≤ 60) (hk2 : k2 ≤ 60) (s1 : SeqAt.shaped d = true) (s2 : SeqAt.shaped e = true) : eqB mh v u = some (PyData.eqv d e) := by
  have h : eqG mh v u = some (PyData.eqv d e) := by
    unfold eqG
    rw [a 60 hk, b 60 hk2]
    dsimp only
    rw [if_pos (by rw [s1, s2]; rfl)]
  unfold eqB
  split
  · cases hp
  · cases hp
  · exact h
theorem eqvAll_nil : ∀ ds : List PyData, PyData.eqvAll ds [] = ds.isEmpty
  | [] => by simp [PyData.eqvAll]
  | _ :: _ => by simp [PyData.eqvAll]
theorem eqv_nil (ds : List PyData) : PyData.eqv (.list ds) (.list []) = ds.isEmpty := by
  simp only [PyData.eqv, eqvAll_nil]
theorem layAll_ints : ∀ ns : List Int, PyData.canLayAll0 (ns.map .int) = true ∧ PyData.depthAll (ns.map .int) = 0
  | [] => by simp [PyData.canLayAll0, PyData.depthAll]
  | n :: ns => by
    have := layAll_ints ns
    simp [PyData.canLayAll0, PyData.canLay0, PyData.depthAll, PyData.depth, this]
theorem shaped_ints (ns : List Int) : SeqAt.shaped (.list (ns.map .int)) = true := by
  have := layAll_ints ns
  simp [SeqAt.shaped, PyData.canLay0, PyData.depth, this]
theorem eqB_empty {mh : MH} {p q : Nat} {ns : List Int} (e : mh[p]? = some (.lst (ns.map .int))) (e2 : mh[q]? = some (.lst [])) : eqB mh (.loc p) (.loc q) = some ns.isEmpty := by
  have h := eqB_dat (v := .loc p) (u := .loc q) rfl (Dat.lst e (Dats.ints ns)) (Dat.lst e2 (.nil (k := 0))) (by omega) (by omega) (shaped_ints ns) (shaped_ints [])
  rw [eqv_nil] at h
  rw [h]
  cases ns <;> rfl
theorem Op_neEmpty {mh : MH} {p q : Nat} {ns : List Int} {Q : MV → MH → Prop} (e : mh[p]? = some (.lst (ns.map .int))) (e2 : mh[q]? = some (.lst [])) (k : Q (.bl (!ns.isEmpty)) mh) : Op (neM (.loc p) (.loc q) mh) Q := by
  unfold neM
  rw [eqB_empty e e2]
  exact k
theorem Op_eqEmpty {mh : MH} {p q : Nat} {ns : List Int} {Q : MV → MH → Prop} (e : mh[p]? = some (.lst (ns.map .int))) (e2 : mh[q]? = some (.lst [])) (k : Q (.bl ns.isEmpty) mh) : Op (eqM (.loc p) (.loc q) mh) Q := by
  unfold eqM
  rw [eqB_empty e e2]
  exact k
/-! ### comprehensions over what stays -/
section
variable {nxt : Nxt} {g : DG} {tt : DB} {te : DE} {rt : Rt} {env : Env'} {mh : MH} {xs : List MV}
theorem lc_filt {F : Nat} (p : MV → Bool) (f : MV → MV) (hl : xs.length ≤ 16777216) (hF : xs.length < F) (hx : ∀ h, Pre mh h → ∀ i, nxt i h = some xs[i]?)
    (step : ∀ x ∈ xs, ∀ h, Pre mh h → ∃ e, g rt x env h = .nx e h ∧ Ok (tt rt e h) fun k h2 => k = p x ∧ Pre h h2 ∧ (k = true → Ok (te rt e h2) fun y h3 => y = f x ∧ Pre h2 h3)) :
    ∃ m, lcL nxt g tt te rt env F 0 [] mh = some ((xs.filter p).map f, m) ∧ Pre mh m := by
  obtain ⟨ys, m, e, e2, e3⟩ := lc_run (nxt := nxt) (g := g) (tt := tt) (te := te) (rt := rt) (env := env) (fun i acc h => Pre mh h ∧ acc = ((xs.take i).filter p).map f) xs.length hl (by
    rintro i acc h hi ⟨h1, rfl⟩
    obtain ⟨e, e1, k⟩ := step _ (List.getElem_mem hi) h h1
    refine ⟨xs[i], by rw [hx h h1 i]; simp [hi], .of_nx e1 (k.mono fun k h3 ⟨k1, k2, k3⟩ => ?_)⟩
    have et : xs.take (i + 1) = xs.take i ++ [xs[i]] := by simp
    cases k with
    | true =>
      refine Cd_t ((k3 rfl).mono fun y h4 ⟨y1, y2⟩ => ⟨h1.trans (k2.trans y2), ?_⟩)
      rw [et, List.filter_append, List.map_append, y1]
      simp [← k1]
    | false =>
      refine Cd_f ⟨h1.trans k2, ?_⟩
      rw [et, List.filter_append, List.map_append]
      simp [← k1]) (by
    rintro acc h ⟨h1, rfl⟩
    rw [hx h h1]; simp) xs.length F 0 [] mh (by omega) hF ⟨.refl, by simp⟩
  refine ⟨m, ?_, e2⟩
  rw [List.reverse_nil] at e
  rw [e, e3, List.take_length]
theorem lc_map {F : Nat} (f : MV → MV) (hl : xs.length ≤ 16777216) (hF : xs.length < F) (hx : ∀ h, Pre mh h → ∀ i, nxt i h = some xs[i]?)
    (step : ∀ x ∈ xs, ∀ h, Pre mh h → ∃ e, g rt x env h = .nx e h ∧ Ok (te rt e h) fun y h2 => y = f x ∧ Pre h h2) :
    ∃ m, lcL nxt g yesD te rt env F 0 [] mh = some (xs.map f, m) ∧ Pre mh m := by
  obtain ⟨m, e, e2⟩ := lc_filt (nxt := nxt) (g := g) (tt := yesD) (te := te) (rt := rt) (env := env) (xs := xs) (mh := mh) (F := F) (fun _ => true) f hl hF hx fun x hx h hp => by
    obtain ⟨e, e1, k⟩ := step x hx h hp
    exact ⟨e, e1, rfl, .refl, fun _ => k⟩
  refine ⟨m, ?_, e2⟩
  rw [e, List.filter_eq_self.mpr (fun _ _ => rfl)]
theorem lc_nil {F : Nat} (hF : 0 < F) : lcL (nxtX []) g tt te rt env F 0 [] mh = some ([], mh) := by
  obtain ⟨F, rfl⟩ : ∃ n, F = n + 1 := ⟨F - 1, by omega⟩
  rfl
theorem nxtX_at (i : Nat) (h : MH) : nxtX xs i h = some xs[i]? := rfl
end
theorem allB_map {α : Type} (p : α → Bool) : ∀ xs : List α, allB (xs.map fun x => .bl (p x)) = some (xs.all p)
  | [] => rfl
  | x :: xs => by rw [List.map_cons, allB, allB_map p xs]; rfl
end
theorem any_ints (ns : List Int) (y : Int) : ((ns.map PyData.int).any fun z => PyData.eqv z (.int y)) = decide (y ∈ ns) := by
  induction ns with
  | nil => rfl
  | cons n ns ih =>
    rw [List.map_cons, List.any_cons, ih]
    by_cases h : n = y
    · subst h; simp [PyData.eqv]
    · simp [PyData.eqv, h, Ne.symm h]
theorem inB_ints {mh : MH} {p : Nat} {ns : List Int} (e : mh[p]? = some (.lst (ns.map .int))) (y : Int) : inB mh (.int y) (.loc p) = some (decide (y ∈ ns)) := by
  have h : inG mh (.int y) (.loc p) = some (decide (y ∈ ns)) := by
    unfold inG
    rw [Dat.int y 60 (by omega), Dat.lst e (Dats.ints ns) 60 (by omega)]
    dsimp only
    rw [if_pos (by rw [shaped_ints]; simp [SeqAt.shaped, PyData.canLay0, PyData.depth]), any_ints]
  unfold inB
  split
  · rename_i q; cases q
  · unfold inD
    simp only [kvOf, e]
    exact h
theorem Op_notinL {mh : MH} {p : Nat} {ns : List Int} {y : Int} {Q : MV → MH → Prop} (e : mh[p]? = some (.lst (ns.map .int))) (k : Q (.bl (!decide (y ∈ ns))) mh) : Op (notinM (.int y) (.loc p) mh) Q := by
  unfold notinM
  rw [inB_ints e]
  exact k
/-! ### texts in tuples -/
def strsOf : List MV → Option (List (List Nat))
  | [] => some []
  | .str s :: r => match strsOf r with
    | some l => some (s :: l)
    | none => none
  | _ :: _ => none
def okS (s : List Nat) : Bool := s.all fun c => Nat.blt c 1114112
theorem okS_lay {s : List Nat} (h : okS s = true) : PyData.strOk (S s) = true := by
  unfold PyData.strOk S
  rw [List.all_toArray]
  refine List.all_eq_true.mpr fun c hc => ?_
  have := List.all_eq_true.mp h c hc
  rw [Nat.blt_eq] at this
  exact decide_eq_true this
theorem strsOf_dat {mh : MH} : ∀ {xs : List MV} {ss : List (List Nat)}, strsOf xs = some ss → Dats mh xs (ss.map fun s => .str (S s)) 0
  | [], ss, e => by cases e; exact .nil
  | x :: xs, ss, e => by
    unfold strsOf at e
    split at e
    · cases e; rename_i h; cases h
    · rename_i s r h
      cases h
      split at e
      · rename_i l el
        cases e
        exact .cons (.str s) (strsOf_dat el)
      · cases e
    · cases e
theorem S_beq (a b : List Nat) : (S a == S b) = beqL a b := by
  rw [beqL_iff, Bool.eq_iff_iff, beq_iff_eq, decide_eq_true_iff]
  exact ⟨S_inj, fun h => by rw [h]⟩
theorem lay_strs : ∀ {ss : List (List Nat)}, ss.all okS = true → PyData.canLayAll0 (ss.map fun s => .str (S s)) = true ∧ PyData.depthAll (ss.map fun s => .str (S s)) = 0
  | [], _ => by simp [PyData.canLayAll0, PyData.depthAll]
  | s :: ss, h => by
    rw [List.all_cons, Bool.and_eq_true] at h
    have := lay_strs h.2
    have h2 := okS_lay h.1
    simp [PyData.canLayAll0, PyData.canLay0, PyData.depthAll, PyData.depth, this, h2]
theorem inM_strs {mh : MH} {s : List Nat} {xs : List MV} {ss : List (List Nat)} (e : strsOf xs = some ss) (h1 : okS s = true) (h2 : ss.all okS = true) : inB mh (.str s) (.tup xs) = some (ss.any fun t => beqL t s) := by
  have h : inG mh (.str s) (.tup xs) = some (ss.any fun t => beqL t s) := by
    unfold inG
    rw [Dat.str s 60 (by omega), Dat.tup (strsOf_dat e) 60 (by omega)]
    dsimp only
    have l := lay_strs h2
    rw [if_pos (by
      simp only [SeqAt.shaped, PyData.canLay0, PyData.depth, l, okS_lay h1]
      rfl), List.any_map]
    congr 2
    funext t
    simp only [Function.comp, PyData.eqv, S_beq]
  unfold inB
  split
  · rename_i c z q
    cases q
  · unfold inD kvOf
    exact h
theorem Op_inTup {mh : MH} {s : List Nat} {xs : List MV} {ss : List (List Nat)} {b : Bool} {Q : MV → MH → Prop} (e : strsOf xs = some ss) (h1 : okS s = true) (h2 : ss.all okS = true) (hb : (ss.any fun t => beqL t s) = b) (k : Q (.bl b) mh) : Op (inM (.str s) (.tup xs) mh) Q := by
  unfold inM
  rw [inM_strs e h1 h2, hb]
  exact k
theorem Op_notinTup {mh : MH} {s : List Nat} {xs : List MV} {ss : List (List Nat)} {b : Bool} {Q : MV → MH → Prop} (e : strsOf xs = some ss) (h1 : okS s = true) (h2 : ss.all okS = true) (hb : (ss.any fun t => beqL t s) = b) (k : Q (.bl (!b)) mh) : Op (notinM (.str s) (.tup xs) mh) Q := by
  unfold notinM
  rw [inM_strs e h1 h2, hb]
  exact k
end Vf
end L2
end
section
/-! VY: the rules of wanted ends as equations. -/
namespace L2
namespace Vf
open PySem PySem.Spec PyProof.Rows
def OB (v : MV) (Q : Bool → Prop) : Prop := match v with
  | .bl x => Q x
  | _ => False
def OI (v : MV) (Q : Int → Prop) : Prop := match v with
  | .int x => Q x
  | _ => False
def OT (r : Option Bool) (Q : Bool → Prop) : Prop := match r with
  | some x => Q x
  | none => False
def OV (r : Option (Option MV)) (Q : MV → Prop) : Prop := match r with
  | some (some v) => Q v
  | _ => False
def OM (r : Option PM) (Q : PM → Prop) : Prop := match r with
  | some v => Q v
  | none => False
def OH (r : Option MH) (Q : MH → Prop) : Prop := match r with
  | some v => Q v
  | none => False
def ON (v : MV) (h : MH) (Q : Nxt → Prop) : Prop := match v with
  | .loc n => match h[n]? with
    | some (.lst _) => Q (nxtL n)
    | _ => False
  | .tup xs => Q (nxtX xs)
  | .fl xs => Q (nxtX xs)
  | .str cs => Q (nxtS cs)
  | _ => False
section
variable {rt : Rt} {env : Env'} {mh h : MH} {d da db dc : DE} {dl dk : DL} {c c2 c3 : DB} {a b : DS} {g : DG} {gs : DGs} {N : Env' → MH → Prop} {R Q : MV → MH → Prop} {QB : Bool → MH → Prop} {QL : List MV → MH → Prop} {QN : Nxt → MH → Prop} {QO : Option Int → MH → Prop} {P PP : Prop}
theorem eqB_ {x : Bool} {Q : Bool → Prop} : OB (.bl x) Q = Q x := rfl
theorem eqI_ {x : Int} {Q : Int → Prop} : OI (.int x) Q = Q x := rfl
theorem eqT_ {x : Bool} {Q : Bool → Prop} : OT (some x) Q = Q x := rfl
theorem eqV_ {x : MV} {Q : MV → Prop} : OV (some (some x)) Q = Q x := rfl
theorem eqM_ {x : PM} {Q : PM → Prop} : OM (some x) Q = Q x := rfl
theorem eqH_ {x : MH} {Q : MH → Prop} : OH (some x) Q = Q x := rfl
theorem eqNt {xs : List MV} {Q : Nxt → Prop} : ON (.tup xs) h Q = Q (nxtX xs) := rfl
theorem eqNf {xs : List MV} {Q : Nxt → Prop} : ON (.fl xs) h Q = Q (nxtX xs) := rfl
theorem eqNs {xs : List Nat} {Q : Nxt → Prop} : ON (.str xs) h Q = Q (nxtS xs) := rfl
theorem ON_l {n : Nat} {xs : List MV} {Q : Nxt → Prop} (e : h[n]? = some (.lst xs)) (k : Q (nxtL n)) : ON (.loc n) h Q := by unfold ON; dsimp only; rw [e]; exact k
theorem OM_l {n : Nat} {xs : List MV} {pm : PM} {r : Alts} {Q : PM → Prop} (e : h[n]? = some (.lst xs)) (k : Q pm) : OM (pickA ((isLstM, pm) :: r) (.loc n) h) Q := by rw [pick_lst e]; exact k
theorem OM_d {n : Nat} {kvs : List (MV × MV)} {Q : PM → Prop} (e : h[n]? = some (.dct kvs)) (k : Q getDM) : OM (pickA [(isDctM, getDM)] (.loc n) h) Q := by rw [pick_dct e]; exact k
theorem eqCt : Cd true P PP = P := rfl
theorem eqCf : Cd false P PP = PP := rfl
theorem eqCn {k : Bool} : Cd (!k) P PP = Cd k PP P := by cases k <;> rfl
theorem eqOp {v : MV} : Op (some (v, h)) Q = Q v h := rfl
theorem okE_bnd {α β : Type} {d : Rt → Env' → MH → Rs α} {f : α → Rt → Env' → MH → Rs β} {Q : β → MH → Prop} : Ok (bnd d f rt env mh) Q = Ok (d rt env mh) fun v h => Ok (f v rt env h) Q := by
  unfold bnd
  cases d rt env mh <;> rfl
theorem okE_lft {r : Option (MV × MH)} : Ok (lft r) Q = Op r Q := by cases r <;> rfl
theorem okE_ok {α : Type} {v : α} {Q : α → MH → Prop} : Ok (.ok v h) Q = Q v h := rfl
theorem okE_var {i : Nat} : Ok (varD i rt env mh) Q = OV env[i]? fun v => Q v mh := by
  unfold varD
  cases e : env[i]? with
  | none => rfl
  | some o => cases o <;> rfl
theorem okE_con {v : MV} : Ok (conD v rt env mh) Q = Q v mh := rfl
theorem okE_op1 {p : P1} : Ok (op1D p d rt env mh) Q = Ok (d rt env mh) fun v h => Op (p v h) Q := by simp only [op1D, okE_bnd, okE_lft]
theorem okE_op2 {p : P2} : Ok (op2D p da db rt env mh) Q = Ok (da rt env mh) fun v h => Ok (db rt env h) fun u h => Op (p v u h) Q := by simp only [op2D, okE_bnd, okE_lft]
theorem okE_opN {p : PN} : Ok (opND p dl rt env mh) Q = Ok (dl rt env mh) fun v h => Op (p v h) Q := by simp only [opND, okE_bnd, okE_lft]
theorem okE_nil : Ok (nilD rt env mh) QL = QL [] mh := rfl
theorem okE_cons : Ok (consD d dl rt env mh) QL = Ok (d rt env mh) fun v h => Ok (dl rt env h) fun vs h => QL (v :: vs) h := by simp only [consD, okE_bnd, okE_ok]
theorem okE_if : Ok (ifD c da db rt env mh) Q = Ok (c rt env mh) fun k h => Cd k (Ok (da rt env h) Q) (Ok (db rt env h) Q) := by
  unfold ifD
  rw [okE_bnd]
  congr 1
  funext k h
  cases k <;> rfl
theorem okE_andV : Ok (andV da db rt env mh) Q = Ok (da rt env mh) fun v h => OB v fun x => Cd x (Ok (db rt env h) Q) (Q (.bl false) h) := by
  unfold andV
  rw [okE_bnd]
  congr 1
  funext v h
  cases v <;> first | rfl | skip
  rename_i x
  cases x <;> rfl
theorem okE_orV : Ok (orV da db rt env mh) Q = Ok (da rt env mh) fun v h => OB v fun x => Cd x (Q (.bl true) h) (Ok (db rt env h) Q) := by
  unfold orV
  rw [okE_bnd]
  congr 1
  funext v h
  cases v <;> first | rfl | skip
  rename_i x
  cases x <;> rfl
theorem okE_notV : Ok (notV da rt env mh) Q = Ok (da rt env mh) fun v h => OB v fun x => Q (.bl (!x)) h := by
  unfold notV
  rw [okE_bnd]
  congr 1
  funext v h
  cases v <;> rfl
theorem okE_chain {p p' : P2} : Ok (chainD p p' da db dc rt env mh) Q = Ok (da rt env mh) fun v h => Ok (db rt env h) fun u h => Op (p v u h) fun w h => OB w fun x => Cd x (Ok (dc rt env h) fun z h => Op (p' u z h) Q) (Q (.bl false) h) := by
  unfold chainD
  rw [okE_bnd]
  congr 1
  funext v h
  rw [okE_bnd]
  congr 1
  funext u h
  cases e : p v u h with
  | none => rfl
  | some z =>
    obtain ⟨w, m⟩ := z
    cases w <;> first | rfl | skip
    rename_i x
    cases x
    · rfl
    · show Ok (bnd dc (fun z _ _ mh => lft (p' u z mh)) rt env m) Q = Ok (dc rt env m) fun z h => Op (p' u z h) Q
      simp only [okE_bnd, okE_lft]
theorem okE_bool : Ok (boolD d rt env mh) QB = Ok (d rt env mh) fun v h => OB v fun x => QB x h := by
  unfold boolD
  rw [okE_bnd]
  congr 1
  funext v h
  cases v <;> rfl
theorem okE_tru : Ok (truD d rt env mh) QB = Ok (d rt env mh) fun v h => OT (trM v h) fun x => QB x h := by
  unfold truD
  rw [okE_bnd]
  congr 1
  funext v h
  cases e : trM v h <;> rfl
theorem okE_and : Ok (andD c c2 rt env mh) QB = Ok (c rt env mh) fun k h => Cd k (Ok (c2 rt env h) QB) (QB false h) := by
  unfold andD
  rw [okE_bnd]
  congr 1
  funext k h
  cases k <;> rfl
theorem okE_or : Ok (orD c c2 rt env mh) QB = Ok (c rt env mh) fun k h => Cd k (QB true h) (Ok (c2 rt env h) QB) := by
  unfold orD
  rw [okE_bnd]
  congr 1
  funext k h
  cases k <;> rfl
theorem okE_not : Ok (notD c rt env mh) QB = Ok (c rt env mh) fun k h => QB (!k) h := by
  unfold notD
  rw [okE_bnd]
  congr 1
theorem okE_ifB : Ok (ifB c c2 c3 rt env mh) QB = Ok (c rt env mh) fun k h => Cd k (Ok (c2 rt env h) QB) (Ok (c3 rt env h) QB) := by
  unfold ifB
  rw [okE_bnd]
  congr 1
  funext k h
  cases k <;> rfl
theorem okE_yes : Ok (yesD rt env mh) QB = QB true mh := rfl
theorem okE_call {cl : Nat → List MV → MH → Rs MV} {F i np : Nat} : Ok (callD i np dl ⟨cl, F⟩ env mh) Q = Ok (dl ⟨cl, F⟩ env mh) fun as h => as.length = np ∧ Ok (cl i as h) Q := by
  unfold callD
  rw [okE_bnd]
  congr 1
  funext as h
  show Ok (if Nat.beq as.length np then cl i as h else .stuck) Q = _
  by_cases e : as.length = np
  · rw [if_pos (by rw [Nat.beq_eq]; exact e)]; simp [e]
  · rw [if_neg (by rw [Nat.beq_eq]; exact e)]; simp [e, Ok]
theorem okE_callK {cl : Nat → List MV → MH → Rs MV} {F i np n : Nat} {rest ks : List Str} : Ok (callKD i np n rest ks dl dk ⟨cl, F⟩ env mh) Q = Ok (dl ⟨cl, F⟩ env mh) fun as h => Ok (dk ⟨cl, F⟩ env h) fun ws h => (as.length = n ∧ ws.length = ks.length ∧ (as ++ kwIn rest ks ws).length = np) ∧ Ok (cl i (as ++ kwIn rest ks ws) h) Q := by
  unfold callKD
  rw [okE_bnd]
  congr 1
  funext as h
  rw [okE_bnd]
  congr 1
  funext ws h
  show Ok (if Nat.beq as.length n && Nat.beq ws.length ks.length then (if Nat.beq (as ++ kwIn rest ks ws).length np then cl i (as ++ kwIn rest ks ws) h else .stuck) else .stuck) Q = _
  by_cases e : as.length = n ∧ ws.length = ks.length
  · rw [if_pos (by rw [Bool.and_eq_true, Nat.beq_eq, Nat.beq_eq]; exact e)]
    by_cases e2 : (as ++ kwIn rest ks ws).length = np
    · rw [if_pos (by rw [Nat.beq_eq]; exact e2)]
      exact propext ⟨fun q => ⟨⟨e.1, e.2, e2⟩, q⟩, fun q => q.2⟩
    · rw [if_neg (by rw [Nat.beq_eq]; exact e2)]
      exact propext ⟨fun q => q.elim, fun q => e2 q.1.2.2⟩
  · rw [if_neg (by rw [Bool.and_eq_true, Nat.beq_eq, Nat.beq_eq]; exact e)]
    exact propext ⟨fun q => q.elim, fun q => e ⟨q.1.1, q.1.2.1⟩⟩
theorem okE_meth {al : Alts} : Ok (methAD al d dl rt env mh) Q = Ok (d rt env mh) fun a h => OM (pickA al a h) fun p => Ok (dl rt env h) fun as h => Op (p a as h) Q := by
  unfold methAD
  rw [okE_bnd]
  congr 1
  funext a h
  cases e : pickA al a h with
  | none => rfl
  | some p =>
    show Ok (bnd dl (fun as _ _ mh => lft (p a as mh)) rt env h) Q = _
    simp only [okE_bnd, okE_lft, OM]
theorem okE_meth0 {al : Alts} : Ok (meth0D al d rt env mh) Q = Ok (d rt env mh) fun a h => OM (pickA al a h) fun p => Op (p a [] h) Q := by
  unfold meth0D
  rw [okE_bnd]
  congr 1
  funext a h
  cases e : pickA al a h with
  | none => rfl
  | some p => exact okE_lft
theorem okE_noPart : Ok (noPartD rt env mh) QO = QO none mh := rfl
theorem okE_part : Ok (partD d rt env mh) QO = Ok (d rt env mh) fun v h => OI v fun i => QO (some i) h := by
  unfold partD
  rw [okE_bnd]
  congr 1
  funext v h
  cases v <;> rfl
theorem okE_slice {lo hi : DO} : Ok (sliceD d lo hi rt env mh) Q = Ok (d rt env mh) fun v h => Ok (lo rt env h) fun l h => Ok (hi rt env h) fun u h => Op (sliceM v l u h) Q := by simp only [sliceD, okE_bnd, okE_lft]
theorem okE_any : Ok (anyI d rt env mh) QN = Ok (d rt env mh) fun v h => ON v h fun n => QN n h := by
  unfold anyI
  rw [okE_bnd]
  congr 1
  funext v h
  cases v <;> first | rfl | skip
  rename_i n
  unfold ON
  dsimp only
  cases h[n]? with
  | none => rfl
  | some o => cases o <;> rfl
theorem okE_rng1 : Ok (rng1I dl rt env mh) QN = Ok (dl rt env mh) fun vs h => ∃ j, vs = [.int j] ∧ Vf.inR j = true ∧ QN (nxtR 0 j.toNat) h := by
  refine propext ⟨fun k => ?_, Ok_rng1⟩
  unfold rng1I at k
  rw [okE_bnd] at k
  refine k.mono fun vs h q => ?_
  revert q
  cases vs with
  | nil => exact fun q => q.elim
  | cons v vs =>
    cases v <;> first | exact fun q => q.elim | skip
    rename_i j
    cases vs with
    | cons _ _ => exact fun q => q.elim
    | nil =>
      show Ok (if Vf.inR j then .ok (nxtR 0 j.toNat) h else .stuck) QN → _
      by_cases e : Vf.inR j = true
      · rw [if_pos e]; exact fun q => ⟨j, rfl, e, q⟩
      · rw [if_neg e]; exact fun q => q.elim
theorem okE_lc {di : DI} {own : List Nat} {tt : DB} {te : DE} : Ok (lcD di own g tt te rt env mh) Q = Ok (di rt env mh) fun nxt h => ∃ xs m, lcL nxt g tt te rt (wipeE env own) rt.fuel 0 [] h = some (xs, m) ∧ Q (.loc m.length) (m ++ [.lst xs]) := by
  refine propext ⟨fun k => ?_, Ok_lc⟩
  unfold lcD at k
  rw [okE_bnd] at k
  refine k.mono fun nxt h q => ?_
  revert q
  show Ok (match lcL nxt g tt te rt (wipeE env own) rt.fuel 0 [] h with
      | some (acc, h) => .ok (.loc h.length) (h ++ [.lst acc])
      | none => .stuck) Q → _
  cases e : lcL nxt g tt te rt (wipeE env own) rt.fuel 0 [] h with
  | none => exact fun q => q.elim
  | some z => exact fun q => ⟨z.1, z.2, rfl, q⟩
theorem okE_dnew : Ok (dnewD rt env mh) Q = Q (.loc mh.length) (mh ++ [.dct []]) := rfl
theorem okE_pnil {Q : List (MV × MV) → MH → Prop} : Ok (pnilD rt env mh) Q = Q [] mh := rfl
theorem okE_pcons {t : DP} {Q : List (MV × MV) → MH → Prop} : Ok (pconsD da db t rt env mh) Q = Ok (da rt env mh) fun x h => Ok (db rt env h) fun y h => Ok (t rt env h) fun ps h => Q ((x, y) :: ps) h := by simp only [pconsD, okE_bnd, okE_ok]
/-! ### statements -/
theorem osE_toS {α : Type} {r : Rs α} {f : α → MH → RsS} : Os (toS r env f) N R = Ok r fun v h => Os (f v h) N R := by cases r <;> rfl
theorem osE_seq : Os (seqS a b rt env mh) N R = Os (a rt env mh) (fun e h => Os (b rt e h) N R) R := by
  unfold seqS
  cases a rt env mh <;> rfl
theorem osE_expr : Os (exprS d rt env mh) N R = Ok (d rt env mh) fun _ h => N env h := osE_toS
theorem osE_set {i : Nat} : Os (setS i d rt env mh) N R = Ok (d rt env mh) fun v h => N (env.set i (some v)) h := osE_toS
theorem osE_ret : Os (retS d rt env mh) N R = Ok (d rt env mh) R := osE_toS
theorem osE_retN : Os (retNS rt env mh) N R = R .non mh := rfl
theorem osE_pass : Os (passS rt env mh) N R = N env mh := rfl
theorem osE_if : Os (ifS c a b rt env mh) N R = Ok (c rt env mh) fun k h => Cd k (Os (a rt env h) N R) (Os (b rt env h) N R) := by
  unfold ifS
  rw [osE_toS]
  congr 1
  funext k h
  cases k <;> rfl
theorem osE_asg : Os (asgS d g rt env mh) N R = Ok (d rt env mh) fun v h => Os (g rt v env h) N R := osE_toS
theorem osE_name {i : Nat} {v : MV} : Os (nameG i rt v env mh) N R = N (env.set i (some v)) mh := rfl
theorem osE_sub {v : MV} {o i : DE} : Os (subG o i rt v env mh) N R = Ok (o rt env mh) fun a h => Ok (i rt env h) fun b h => OH (stIx a b v h) fun m => N env m := by
  unfold subG
  cases e : o rt env mh with
  | ok a m =>
    dsimp only [Ok]
    cases e2 : i rt env m with
    | ok b m2 =>
      dsimp only
      cases e3 : stIx a b v m2 <;> rfl
    | _ => rfl
  | _ => rfl
theorem okE_disp {t : DP} : Ok (dispD t rt env mh) Q = Ok (t rt env (mh ++ [.dct []])) fun ps h => h[mh.length]? = some (.dct []) ∧ (ps.all (fun p => isKeyM p.1) && Nat.ble ps.length 15) = true ∧ Q (.loc mh.length) (h.set mh.length (.dct (dmerge [] ps))) := by
  refine propext ⟨fun k => ?_, Ok_disp⟩
  unfold dispD at k
  cases e : t rt env (mh ++ [.dct []]) with
  | ok ps h =>
    rw [e] at k
    revert k
    show Ok (match h[mh.length]? with
      | some (.dct []) => if ps.all (fun p => isKeyM p.1) && Nat.ble ps.length 15 then .ok (.loc mh.length) (h.set mh.length (.dct (dmerge [] ps))) else .stuck
      | _ => .stuck) Q → _
    split
    · rename_i e2
      split
      · rename_i e3
        exact fun k => ⟨e2, e3, k⟩
      · exact fun k => k.elim
    · exact fun k => k.elim
  | exc x h => rw [e] at k; exact k.elim
  | stuck => rw [e] at k; exact k.elim
theorem osE_nilG : Os (nilG rt [] env mh) N R = N env mh := rfl
theorem osE_consGn {i : Nat} {v : MV} {vs : List MV} : Os (consG (nameG i) gs rt (v :: vs) env mh) N R = Os (gs rt vs (env.set i (some v)) mh) N R := rfl
theorem osE_tupT {n : Nat} {xs : List MV} : (Os (tupG n gs rt (.tup xs) env mh) N R) = (xs.length = n ∧ Os (gs rt xs env mh) N R) := by
  show Os (if Nat.beq xs.length n then gs rt xs env mh else .stuck) N R = _
  by_cases e : xs.length = n
  · rw [if_pos (by rw [Nat.beq_eq]; exact e)]; simp [e]
  · rw [if_neg (by rw [Nat.beq_eq]; exact e)]; simp [e, Os]
theorem osE_tupP {n : Nat} {xs : List MV} : (Os (tupG n gs rt (.pr xs) env mh) N R) = (xs.length = n ∧ Os (gs rt xs env mh) N R) := by
  show Os (if Nat.beq xs.length n then gs rt xs env mh else .stuck) N R = _
  by_cases e : xs.length = n
  · rw [if_pos (by rw [Nat.beq_eq]; exact e)]; simp [e]
  · rw [if_neg (by rw [Nat.beq_eq]; exact e)]; simp [e, Os]
theorem osE_par2 {i j : Nat} : Os (par2S i j (consD da (consD db nilD)) rt env mh) N R = Ok (da rt env mh) fun v h => Ok (db rt env h) fun w h => N ((env.set i (some v)).set j (some w)) h := by
  unfold par2S
  rw [osE_toS]
  simp only [okE_cons, okE_nil, Os]
theorem osE_par3 {i j l : Nat} : Os (par3S i j l (consD da (consD db (consD dc nilD))) rt env mh) N R = Ok (da rt env mh) fun v h => Ok (db rt env h) fun w h => Ok (dc rt env h) fun u h => N (((env.set i (some v)).set j (some w)).set l (some u)) h := by
  unfold par3S
  rw [osE_toS]
  simp only [okE_cons, okE_nil, Os]
theorem osE_for {di : DI} : Os (forS di g b rt env mh) N R = Ok (di rt env mh) fun nxt h => Os (forL nxt g b rt rt.fuel 0 env h) N R := osE_toS
theorem osE_while : Os (whileS c b rt env mh) N R = Os (whileL c b rt rt.fuel env mh) N R := rfl
theorem Os_seqC {rt : Rt} {env : Env'} {mh : MH} {a b : DS} {N : Env' → MH → Prop} {R : MV → MH → Prop} (k : ∀ N' : Env' → MH → Prop, (∀ e h, Os (b rt e h) N R → N' e h) → Os (a rt env mh) N' R) : Os (seqS a b rt env mh) N R := Os_seq (k _ fun _ _ h => h)
theorem Ok_C {α : Type} {r : Rs α} {Q : α → MH → Prop} (k : ∀ Q' : α → MH → Prop, (∀ v h, Q v h → Q' v h) → Ok r Q') : Ok r Q := k _ fun _ _ h => h
/-! ### primitives at constructors -/
theorem p_isi_non1 : isiN [.non, .ty 1] h = some (.bl false, h) := rfl
theorem p_isi_non2 : isiN [.non, .ty 2] h = some (.bl false, h) := rfl
theorem p_isi_non3 : isiN [.non, .ty 3] h = some (.bl false, h) := rfl
theorem p_isi_non4 : isiN [.non, .ty 4] h = some (.bl false, h) := rfl
theorem p_isi_non5 : isiN [.non, .ty 5] h = some (.bl false, h) := rfl
theorem p_isi_non6 : isiN [.non, .ty 6] h = some (.bl false, h) := rfl
theorem p_isi_bl1 {x : Bool} : isiN [(.bl x), .ty 1] h = some (.bl true, h) := rfl
theorem p_isi_bl2 {x : Bool} : isiN [(.bl x), .ty 2] h = some (.bl true, h) := rfl
theorem p_isi_bl3 {x : Bool} : isiN [(.bl x), .ty 3] h = some (.bl false, h) := rfl
theorem p_isi_bl4 {x : Bool} : isiN [(.bl x), .ty 4] h = some (.bl false, h) := rfl
theorem p_isi_bl5 {x : Bool} : isiN [(.bl x), .ty 5] h = some (.bl false, h) := rfl
theorem p_isi_bl6 {x : Bool} : isiN [(.bl x), .ty 6] h = some (.bl false, h) := rfl
theorem p_isi_int1 {x : Int} : isiN [(.int x), .ty 1] h = some (.bl false, h) := rfl
theorem p_isi_int2 {x : Int} : isiN [(.int x), .ty 2] h = some (.bl true, h) := rfl
theorem p_isi_int3 {x : Int} : isiN [(.int x), .ty 3] h = some (.bl false, h) := rfl
theorem p_isi_int4 {x : Int} : isiN [(.int x), .ty 4] h = some (.bl false, h) := rfl
theorem p_isi_int5 {x : Int} : isiN [(.int x), .ty 5] h = some (.bl false, h) := rfl
theorem p_isi_int6 {x : Int} : isiN [(.int x), .ty 6] h = some (.bl false, h) := rfl
theorem p_isi_str1 {x : List Nat} : isiN [(.str x), .ty 1] h = some (.bl false, h) := rfl
theorem p_isi_str2 {x : List Nat} : isiN [(.str x), .ty 2] h = some (.bl false, h) := rfl
theorem p_isi_str3 {x : List Nat} : isiN [(.str x), .ty 3] h = some (.bl true, h) := rfl
theorem p_isi_str4 {x : List Nat} : isiN [(.str x), .ty 4] h = some (.bl false, h) := rfl
theorem p_isi_str5 {x : List Nat} : isiN [(.str x), .ty 5] h = some (.bl false, h) := rfl
theorem p_isi_str6 {x : List Nat} : isiN [(.str x), .ty 6] h = some (.bl false, h) := rfl
theorem p_isi_tup1 {x : List MV} : isiN [(.tup x), .ty 1] h = some (.bl false, h) := rfl
theorem p_isi_tup2 {x : List MV} : isiN [(.tup x), .ty 2] h = some (.bl false, h) := rfl
theorem p_isi_tup3 {x : List MV} : isiN [(.tup x), .ty 3] h = some (.bl false, h) := rfl
theorem p_isi_tup4 {x : List MV} : isiN [(.tup x), .ty 4] h = some (.bl false, h) := rfl
theorem p_isi_tup5 {x : List MV} : isiN [(.tup x), .ty 5] h = some (.bl true, h) := rfl
theorem p_isi_tup6 {x : List MV} : isiN [(.tup x), .ty 6] h = some (.bl false, h) := rfl
theorem p_isi_fl1 {x : List MV} : isiN [(.fl x), .ty 1] h = some (.bl false, h) := rfl
theorem p_isi_fl2 {x : List MV} : isiN [(.fl x), .ty 2] h = some (.bl false, h) := rfl
theorem p_isi_fl3 {x : List MV} : isiN [(.fl x), .ty 3] h = some (.bl false, h) := rfl
theorem p_isi_fl4 {x : List MV} : isiN [(.fl x), .ty 4] h = some (.bl true, h) := rfl
theorem p_isi_fl5 {x : List MV} : isiN [(.fl x), .ty 5] h = some (.bl false, h) := rfl
theorem p_isi_fl6 {x : List MV} : isiN [(.fl x), .ty 6] h = some (.bl false, h) := rfl
theorem p_ix0 {x0 : MV} {xs : List MV} : ixM (.tup (x0 :: xs)) (.int 0) h = some (x0, h) := rfl
theorem p_ix1 {x0 x1 : MV} {xs : List MV} : ixM (.tup (x0 :: x1 :: xs)) (.int 1) h = some (x1, h) := rfl
theorem p_ix2 {x0 x1 x2 : MV} {xs : List MV} : ixM (.tup (x0 :: x1 :: x2 :: xs)) (.int 2) h = some (x2, h) := rfl
theorem p_ix3 {x0 x1 x2 x3 : MV} {xs : List MV} : ixM (.tup (x0 :: x1 :: x2 :: x3 :: xs)) (.int 3) h = some (x3, h) := rfl
theorem p_ix4 {x0 x1 x2 x3 x4 : MV} {xs : List MV} : ixM (.tup (x0 :: x1 :: x2 :: x3 :: x4 :: xs)) (.int 4) h = some (x4, h) := rfl
theorem p_ix5 {x0 x1 x2 x3 x4 x5 : MV} {xs : List MV} : ixM (.tup (x0 :: x1 :: x2 :: x3 :: x4 :: x5 :: xs)) (.int 5) h = some (x5, h) := rfl
theorem p_ix6 {x0 x1 x2 x3 x4 x5 x6 : MV} {xs : List MV} : ixM (.tup (x0 :: x1 :: x2 :: x3 :: x4 :: x5 :: x6 :: xs)) (.int 6) h = some (x6, h) := rfl
theorem p_ix7 {x0 x1 x2 x3 x4 x5 x6 x7 : MV} {xs : List MV} : ixM (.tup (x0 :: x1 :: x2 :: x3 :: x4 :: x5 :: x6 :: x7 :: xs)) (.int 7) h = some (x7, h) := rfl
theorem p_lenT {xs : List MV} : lenN [.tup xs] h = some (.int xs.length, h) := rfl
theorem p_lt {i j : Int} : ltM (.int i) (.int j) h = some (.bl (decide (i < j)), h) := rfl
theorem p_le {i j : Int} : leM (.int i) (.int j) h = some (.bl (decide (i ≤ j)), h) := rfl
theorem p_gt {i j : Int} : gtM (.int i) (.int j) h = some (.bl (decide (j < i)), h) := rfl
theorem p_ge {i j : Int} : geM (.int i) (.int j) h = some (.bl (decide (j ≤ i)), h) := rfl
theorem p_eqI {i j : Int} : eqM (.int i) (.int j) h = some (.bl (decide (i = j)), h) := rfl
theorem p_neI {i j : Int} : neM (.int i) (.int j) h = some (.bl (!decide (i = j)), h) := rfl
theorem p_eqS {i j : List Nat} : eqM (.str i) (.str j) h = some (.bl (beqL i j), h) := rfl
theorem p_neS {i j : List Nat} : neM (.str i) (.str j) h = some (.bl (!beqL i j), h) := rfl
theorem p_add {i j : Int} : addM (.int i) (.int j) h = some (.int (i + j), h) := rfl
theorem p_sub {i j : Int} : subM (.int i) (.int j) h = some (.int (i - j), h) := rfl
theorem p_is_non : isM .non .non h = some (.bl true, h) := rfl
theorem p_isnot_non : isnotM .non .non h = some (.bl false, h) := rfl
theorem p_is_bl {x : Bool} : isM (.bl x) .non h = some (.bl false, h) := rfl
theorem p_isnot_bl {x : Bool} : isnotM (.bl x) .non h = some (.bl true, h) := rfl
theorem p_is_int {x : Int} : isM (.int x) .non h = some (.bl false, h) := rfl
theorem p_isnot_int {x : Int} : isnotM (.int x) .non h = some (.bl true, h) := rfl
theorem p_is_str {x : List Nat} : isM (.str x) .non h = some (.bl false, h) := rfl
theorem p_isnot_str {x : List Nat} : isnotM (.str x) .non h = some (.bl true, h) := rfl
theorem p_is_tup {x : List MV} : isM (.tup x) .non h = some (.bl false, h) := rfl
theorem p_isnot_tup {x : List MV} : isnotM (.tup x) .non h = some (.bl true, h) := rfl
theorem p_is_fl {x : List MV} : isM (.fl x) .non h = some (.bl false, h) := rfl
theorem p_isnot_fl {x : List MV} : isnotM (.fl x) .non h = some (.bl true, h) := rfl
theorem p_is_loc {n : Nat} : isM (.loc n) .non h = some (.bl false, h) := rfl
theorem p_isnot_loc {n : Nat} : isnotM (.loc n) .non h = some (.bl true, h) := rfl
theorem p_trB {x : Bool} : trM (.bl x) h = some x := rfl
theorem p_trN : trM .non h = some false := rfl
theorem p_trT0 : trM (.tup []) h = some false := rfl
theorem p_trT {x : MV} {xs : List MV} : trM (.tup (x :: xs)) h = some true := rfl
theorem p_tup0 : tupM [] h = some (.tup [], h) := rfl
theorem p_lst0 : lstM [] h = some (.loc h.length, h ++ [.lst []]) := rfl
theorem p_tup1 {x0 : MV} : tupM [x0] h = some (.tup [x0], h) := rfl
theorem p_lst1 {x0 : MV} : lstM [x0] h = some (.loc h.length, h ++ [.lst [x0]]) := rfl
theorem p_tup2 {x0 x1 : MV} : tupM [x0, x1] h = some (.tup [x0, x1], h) := rfl
theorem p_lst2 {x0 x1 : MV} : lstM [x0, x1] h = some (.loc h.length, h ++ [.lst [x0, x1]]) := rfl
theorem p_tup3 {x0 x1 x2 : MV} : tupM [x0, x1, x2] h = some (.tup [x0, x1, x2], h) := rfl
theorem p_lst3 {x0 x1 x2 : MV} : lstM [x0, x1, x2] h = some (.loc h.length, h ++ [.lst [x0, x1, x2]]) := rfl
theorem p_tup4 {x0 x1 x2 x3 : MV} : tupM [x0, x1, x2, x3] h = some (.tup [x0, x1, x2, x3], h) := rfl
theorem p_lst4 {x0 x1 x2 x3 : MV} : lstM [x0, x1, x2, x3] h = some (.loc h.length, h ++ [.lst [x0, x1, x2, x3]]) := rfl
theorem p_tup5 {x0 x1 x2 x3 x4 : MV} : tupM [x0, x1, x2, x3, x4] h = some (.tup [x0, x1, x2, x3, x4], h) := rfl
theorem p_lst5 {x0 x1 x2 x3 x4 : MV} : lstM [x0, x1, x2, x3, x4] h = some (.loc h.length, h ++ [.lst [x0, x1, x2, x3, x4]]) := rfl
theorem p_tup6 {x0 x1 x2 x3 x4 x5 : MV} : tupM [x0, x1, x2, x3, x4, x5] h = some (.tup [x0, x1, x2, x3, x4, x5], h) := rfl
theorem p_lst6 {x0 x1 x2 x3 x4 x5 : MV} : lstM [x0, x1, x2, x3, x4, x5] h = some (.loc h.length, h ++ [.lst [x0, x1, x2, x3, x4, x5]]) := rfl
theorem p_tup7 {x0 x1 x2 x3 x4 x5 x6 : MV} : tupM [x0, x1, x2, x3, x4, x5, x6] h = some (.tup [x0, x1, x2, x3, x4, x5, x6], h) := rfl
theorem p_lst7 {x0 x1 x2 x3 x4 x5 x6 : MV} : lstM [x0, x1, x2, x3, x4, x5, x6] h = some (.loc h.length, h ++ [.lst [x0, x1, x2, x3, x4, x5, x6]]) := rfl
theorem p_tup8 {x0 x1 x2 x3 x4 x5 x6 x7 : MV} : tupM [x0, x1, x2, x3, x4, x5, x6, x7] h = some (.tup [x0, x1, x2, x3, x4, x5, x6, x7], h) := rfl
theorem p_lst8 {x0 x1 x2 x3 x4 x5 x6 x7 : MV} : lstM [x0, x1, x2, x3, x4, x5, x6, x7] h = some (.loc h.length, h ++ [.lst [x0, x1, x2, x3, x4, x5, x6, x7]]) := rfl
theorem p_int {i : Int} : intN [.int i] h = some (.int i, h) := rfl
theorem p_abs {i : Int} : absN [.int i] h = some (.int (if i < 0 then -i else i), h) := rfl
theorem v0 {o : Option MV} {r : List (Option MV)} : (o :: r)[0]? = some o := rfl
end
end Vf
end L2
end
section
/-! VZ: plain: what is reached from 0; longest ways. -/
namespace L2
namespace Vf
open PySem PySem.Spec PyProof.Rows
inductive Rch (g : Int → List Int) : Int → Prop
  | base : Rch g 0
  | step {a b : Int} : Rch g a → b ∈ g a → Rch g b
/-- all that is reached, in order -/
structure IsClo (g : Int → List Int) (xs : List Int) : Prop where
  srt : xs.Pairwise (· < ·)
  mem : ∀ z, z ∈ xs ↔ Rch g z
theorem IsClo.uniq {g : Int → List Int} {a b : List Int} (h1 : IsClo g a) (h2 : IsClo g b) : a = b := srt_lt_uniq h1.srt h2.srt fun z => (h1.mem z).trans (h2.mem z).symm
/-- the nodes are 0 .. N - 1 -/
def Inn (g : Int → List Int) (N : Nat) : Prop := 0 < N ∧ ∀ a : Int, 0 ≤ a → a < N → ∀ b ∈ g a, 0 ≤ b ∧ b < N
theorem Rch.inn {g : Int → List Int} {N : Nat} (h : Inn g N) {a : Int} (r : Rch g a) : 0 ≤ a ∧ a < N := by
  induction r with
  | base => have := h.1; omega
  | step _ hb ih => exact h.2 _ ih.1 ih.2 _ hb
theorem asc_len : ∀ {l : List Int} {a N : Int}, l.Pairwise (· < ·) → (∀ x ∈ l, a ≤ x ∧ x < N) → (l.length : Int) ≤ max 0 (N - a)
  | [], a, N, _, _ => by simp; omega
  | x :: l, a, N, h, hb => by
    obtain ⟨h1, h2⟩ := List.pairwise_cons.mp h
    have := hb x List.mem_cons_self
    have ih := asc_len (a := x + 1) (N := N) h2 fun y hy => ⟨by have := h1 y hy; omega, (hb y (List.mem_cons_of_mem _ hy)).2⟩
    rw [List.length_cons]
    omega
theorem nodup_len {l : List Int} {N : Nat} (h : l.Nodup) (hb : ∀ x ∈ l, 0 ≤ x ∧ x < (N : Int)) : l.length ≤ N := by
  have e : (isort l).length = l.length := (isort_perm l).length_eq
  rw [isort_nodup h] at e
  have := asc_len (l := ssort l) (a := 0) (N := N) (ssort_srt l) fun x hx => hb x ((ssort_mem x l).mp hx)
  omega
theorem ssort_self {l : List Int} (h : l.Pairwise (· < ·)) : ssort l = l := srt_lt_uniq (ssort_srt l) h fun z => ssort_mem z l
theorem closed_all {g : Int → List Int} {l : List Int} (h0 : 0 ∈ l) (hc : ∀ x ∈ l, ∀ y ∈ g x, y ∈ l) {a : Int} (r : Rch g a) : a ∈ l := by
  induction r with
  | base => exact h0
  | step _ hb ih => exact hc _ ih _ hb
/-! ### the list of things to be done -/
structure Dfs (g : Int → List Int) (ks st : List Int) : Prop where
  nd : ks.Nodup
  rc : ∀ x ∈ ks, Rch g x
  z : 0 ∈ ks
  sub : ∀ x ∈ st, x ∈ ks
  cl : ∀ x ∈ ks, x ∉ st → ∀ y ∈ g x, y ∈ ks
theorem Dfs.start (g : Int → List Int) : Dfs g [0] [0] := ⟨by simp, fun x hx => by simp at hx; subst hx; exact .base, by simp, fun x hx => hx, fun x hx hn => absurd hx hn⟩
theorem Dfs.done {g : Int → List Int} {ks : List Int} (h : Dfs g ks []) : IsClo g (isort ks) := by
  rw [isort_nodup h.nd]
  refine ⟨ssort_srt ks, fun z => ?_⟩
  rw [ssort_mem]
  exact ⟨h.rc z, closed_all h.z fun x hx => h.cl x hx (by simp)⟩
/-- amid the ways of a: those in r are left -/
structure Amid (g : Int → List Int) (a : Int) (r ks st : List Int) : Prop where
  nd : ks.Nodup
  rc : ∀ x ∈ ks, Rch g x
  z : 0 ∈ ks
  sub : ∀ x ∈ st, x ∈ ks
  ra : Rch g a
  rs : ∀ y ∈ r, y ∈ g a
  cl : ∀ x ∈ ks, x ∉ st → ∀ y ∈ g x, y ∈ ks ∨ (x = a ∧ y ∈ r)
theorem Dfs.pop {g : Int → List Int} {ks st : List Int} {a : Int} (h : Dfs g ks (st ++ [a])) : Amid g a (g a) ks st := by
  refine ⟨h.nd, h.rc, h.z, fun x hx => h.sub x (List.mem_append_left _ hx), h.rc a (h.sub a (by simp)), fun y hy => hy, fun x hx hn y hy => ?_⟩
  by_cases e : x = a
  · subst e; exact .inr ⟨rfl, hy⟩
  · exact .inl (h.cl x hx (by simp [hn, e]) y hy)
theorem Amid.skip {g : Int → List Int} {ks st r : List Int} {a y : Int} (h : Amid g a (y :: r) ks st) (hy : y ∈ ks) : Amid g a r ks st :=
  ⟨h.nd, h.rc, h.z, h.sub, h.ra, fun z hz => h.rs z (List.mem_cons_of_mem _ hz), fun x hx hn w hw => by
    rcases h.cl x hx hn w hw with q | ⟨e, q⟩
    · exact .inl q
    · rcases List.mem_cons.mp q with rfl | q
      · exact .inl hy
      · exact .inr ⟨e, q⟩⟩
theorem Amid.add {g : Int → List Int} {ks st r : List Int} {a y : Int} (h : Amid g a (y :: r) ks st) (hy : y ∉ ks) : Amid g a r (ks ++ [y]) (st ++ [y]) := by
  refine ⟨?_, ?_, List.mem_append_left _ h.z, ?_, h.ra, fun z hz => h.rs z (List.mem_cons_of_mem _ hz), ?_⟩
  · rw [List.nodup_append]
    exact ⟨h.nd, by simp, fun x hx z hz => by simp at hz; subst hz; intro e; subst e; exact hy hx⟩
  · intro x hx
    rcases List.mem_append.mp hx with q | q
    · exact h.rc x q
    · simp at q; subst q; exact .step h.ra (h.rs _ List.mem_cons_self)
  · intro x hx
    rcases List.mem_append.mp hx with q | q
    · exact List.mem_append_left _ (h.sub x q)
    · exact List.mem_append_right _ q
  · intro x hx hn w hw
    rcases List.mem_append.mp hx with q | q
    · rcases h.cl x q (fun z => hn (List.mem_append_left _ z)) w hw with q | ⟨e, q⟩
      · exact .inl (List.mem_append_left _ q)
      · rcases List.mem_cons.mp q with rfl | q
        · exact .inl (by simp)
        · exact .inr ⟨e, q⟩
    · exact absurd (List.mem_append_right _ q) hn
theorem Amid.end {g : Int → List Int} {ks st : List Int} {a : Int} (h : Amid g a [] ks st) : Dfs g ks st :=
  ⟨h.nd, h.rc, h.z, h.sub, fun x hx hn y hy => by
    rcases h.cl x hx hn y hy with q | ⟨_, q⟩
    · exact q
    · cases q⟩
theorem Dfs.len {g : Int → List Int} {ks st : List Int} {N : Nat} (hN : Inn g N) (h : Dfs g ks st) : ks.length ≤ N := nodup_len h.nd fun x hx => (h.rc x hx).inn hN
theorem Amid.len {g : Int → List Int} {ks st r : List Int} {a : Int} {N : Nat} (hN : Inn g N) (h : Amid g a r ks st) : ks.length ≤ N := nodup_len h.nd fun x hx => (h.rc x hx).inn hN
/-! ### wave by wave -/
structure Bfs (g : Int → List Int) (xs : List Int) : Prop where
  srt : xs.Pairwise (· < ·)
  rc : ∀ x ∈ xs, Rch g x
  z : 0 ∈ xs
def late (g : Int → List Int) (xs : List Int) : List Int := xs.flatMap fun x => (g x).filter fun y => decide (y ∉ xs)
theorem Bfs.start (g : Int → List Int) : Bfs g [0] := ⟨by simp, fun x hx => by simp at hx; subst hx; exact .base, by simp⟩
theorem Bfs.next {g : Int → List Int} {xs : List Int} (h : Bfs g xs) : Bfs g (ssort (xs ++ late g xs)) := by
  refine ⟨ssort_srt _, fun x hx => ?_, (ssort_mem _ _).mpr (List.mem_append_left _ h.z)⟩
  rcases List.mem_append.mp ((ssort_mem _ _).mp hx) with q | q
  · exact h.rc x q
  · obtain ⟨a, ha, q⟩ := List.mem_flatMap.mp q
    exact .step (h.rc a ha) (List.mem_filter.mp q).1
theorem Bfs.len {g : Int → List Int} {xs : List Int} {N : Nat} (hN : Inn g N) (h : Bfs g xs) : xs.length ≤ N := by
  have := asc_len (l := xs) (a := 0) (N := N) h.srt fun x hx => (h.rc x hx).inn hN
  omega
theorem Bfs.grow {g : Int → List Int} {xs : List Int} (h : Bfs g xs) (hl : late g xs ≠ []) : xs.length < (ssort (xs ++ late g xs)).length := by
  obtain ⟨y, r, e⟩ := List.exists_cons_of_ne_nil hl
  have hy : y ∈ late g xs := by rw [e]; simp
  obtain ⟨a, ha, q⟩ := List.mem_flatMap.mp hy
  have hn : y ∉ xs := by simpa using (List.mem_filter.mp q).2
  have hnd : (y :: xs).Nodup := List.nodup_cons.mpr ⟨hn, h.srt.imp fun h => by omega⟩
  have e2 : (ssort (y :: xs)).length = xs.length + 1 := by
    rw [← isort_nodup hnd, (isort_perm _).length_eq]; rfl
  have e3 : ∀ {l m : List Int}, l.Pairwise (· < ·) → m.Pairwise (· < ·) → (∀ z ∈ l, z ∈ m) → l.length ≤ m.length := by
    intro l
    induction l with
    | nil => intro m _ _ _; simp
    | cons x l ih =>
      intro m hl hm hs
      obtain ⟨l1, l2⟩ := List.pairwise_cons.mp hl
      have hx := hs x List.mem_cons_self
      obtain ⟨p, s, rfl⟩ := List.append_of_mem hx
      obtain ⟨m1, m2, m3⟩ := List.pairwise_append.mp hm
      obtain ⟨m4, m5⟩ := List.pairwise_cons.mp m2
      have := ih (m := s) l2 m5 fun z hz => by
        rcases List.mem_append.mp (hs z (List.mem_cons_of_mem _ hz)) with q | q
        · have := m3 z q x List.mem_cons_self
          have := l1 z hz
          omega
        · rcases List.mem_cons.mp q with rfl | q
          · have := l1 z hz; omega
          · exact q
      simp
      omega
  have := e3 (ssort_srt (y :: xs)) (ssort_srt (xs ++ late g xs)) fun z hz => (ssort_mem _ _).mpr (by
    rcases List.mem_cons.mp ((ssort_mem _ _).mp hz) with rfl | q
    · exact List.mem_append_right _ hy
    · exact List.mem_append_left _ q)
  omega
theorem Bfs.done {g : Int → List Int} {xs : List Int} (h : Bfs g xs) (hl : late g xs = []) : IsClo g xs := by
  refine ⟨h.srt, fun z => ⟨h.rc z, closed_all h.z fun x hx y hy => ?_⟩⟩
  apply Classical.byContradiction
  intro hn
  have : y ∈ late g xs := List.mem_flatMap.mpr ⟨x, hx, List.mem_filter.mpr ⟨hy, by simpa using hn⟩⟩
  rw [hl] at this
  cases this
theorem Bfs.ex {g : Int → List Int} {N : Nat} (hN : Inn g N) : ∀ (m : Nat) {xs : List Int}, N - xs.length ≤ m → Bfs g xs → ∃ ys, IsClo g ys
  | 0, xs, hm, h => by
    by_cases hl : late g xs = []
    · exact ⟨xs, h.done hl⟩
    · have := h.grow hl
      have := h.next.len hN
      omega
  | m + 1, xs, hm, h => by
    by_cases hl : late g xs = []
    · exact ⟨xs, h.done hl⟩
    · have := h.grow hl
      exact Bfs.ex hN m (by omega) h.next
theorem clo_ex {g : Int → List Int} {N : Nat} (hN : Inn g N) : ∃ ys, IsClo g ys := Bfs.ex hN _ (Nat.le_refl _) (.start g)
theorem flat_len {α β : Type} {f : α → List β} {D : Nat} : ∀ {xs : List α}, (∀ x ∈ xs, (f x).length ≤ D) → (xs.flatMap f).length ≤ xs.length * D
  | [], _ => by simp
  | x :: xs, h => by
    have h1 := h x List.mem_cons_self
    have h2 := flat_len (xs := xs) fun y hy => h y (List.mem_cons_of_mem _ hy)
    rw [List.flatMap_cons, List.length_append, List.length_cons, Nat.add_mul, Nat.one_mul]
    omega
theorem late_len {g : Int → List Int} {xs : List Int} {D : Nat} (h : ∀ x ∈ xs, (g x).length ≤ D) : (late g xs).length ≤ xs.length * D :=
  flat_len fun x hx => Nat.le_trans (List.length_filter_le _ _) (h x hx)
/-! ### sequences of calls -/
def wave (g : Int → List Int) : Nat → List Int
  | 0 => [0]
  | i + 1 => ssort ((wave g i).flatMap g)
def hgt (g : Int → List Int) : Nat → Int → Bool
  | 0, _ => true
  | i + 1, a => (g a).any (hgt g i)
def waveF (g : Int → List Int) : Nat → List Int → List Int
  | 0, l => l
  | i + 1, l => waveF g i (ssort (l.flatMap g))
theorem waveF_succ (g : Int → List Int) : ∀ (i : Nat) (l : List Int), waveF g (i + 1) l = ssort ((waveF g i l).flatMap g)
  | 0, l => rfl
  | i + 1, l => by rw [waveF, waveF_succ g i]; rfl
theorem wave_eq (g : Int → List Int) : ∀ i, wave g i = waveF g i [0]
  | 0 => rfl
  | i + 1 => by rw [wave, wave_eq g i, waveF_succ]
theorem waveF_ne (g : Int → List Int) : ∀ (i : Nat) (l : List Int), waveF g i l ≠ [] ↔ ∃ a ∈ l, hgt g i a = true
  | 0, l => by
    rw [waveF]
    cases l with
    | nil => simp
    | cons x l => simp [hgt]
  | i + 1, l => by
    rw [waveF, waveF_ne g i]
    constructor
    · rintro ⟨b, hb, h⟩
      obtain ⟨a, ha, q⟩ := List.mem_flatMap.mp ((ssort_mem _ _).mp hb)
      exact ⟨a, ha, by rw [hgt]; exact List.any_eq_true.mpr ⟨b, q, h⟩⟩
    · rintro ⟨a, ha, h⟩
      rw [hgt] at h
      obtain ⟨b, hb, h⟩ := List.any_eq_true.mp h
      exact ⟨b, (ssort_mem _ _).mpr (List.mem_flatMap.mpr ⟨a, ha, hb⟩), h⟩
theorem wave_ne (g : Int → List Int) (i : Nat) : wave g i ≠ [] ↔ hgt g i 0 = true := by
  rw [wave_eq, waveF_ne]
  simp
theorem hgt_mono (g : Int → List Int) : ∀ (i : Nat) (a : Int), hgt g (i + 1) a = true → hgt g i a = true
  | 0, a, _ => rfl
  | i + 1, a, h => by
    rw [hgt] at h ⊢
    obtain ⟨b, hb, q⟩ := List.any_eq_true.mp h
    exact List.any_eq_true.mpr ⟨b, hb, hgt_mono g i b q⟩
theorem hgt_stable {g : Int → List Int} {N : Nat} (hN : Inn g N) {i : Nat} (h : ∀ a : Int, 0 ≤ a → a < N → hgt g i a = true → hgt g (i + 1) a = true) : ∀ (k : Nat) (a : Int), 0 ≤ a → a < N → hgt g (i + k) a = true → hgt g (i + k + 1) a = true
  | 0, a, h1, h2, q => h a h1 h2 q
  | k + 1, a, h1, h2, q => by
    rw [show i + (k + 1) = i + k + 1 from rfl, hgt] at q
    rw [show i + (k + 1) + 1 = (i + k + 1) + 1 from rfl, hgt]
    obtain ⟨b, hb, q⟩ := List.any_eq_true.mp q
    have := hN.2 a h1 h2 b hb
    exact List.any_eq_true.mpr ⟨b, hb, hgt_stable hN h k b this.1 this.2 q⟩
def cnt (g : Int → List Int) (N i : Nat) : Nat := ((List.range N).filter fun a : Nat => hgt g i ((a : Nat) : Int)).length
theorem filter_eq_len {α : Type} {p q : α → Bool} : ∀ {l : List α}, (∀ x ∈ l, q x = true → p x = true) → (l.filter p).length ≤ (l.filter q).length → ∀ x ∈ l, p x = true → q x = true
  | [], _, _, x, hx, _ => by cases hx
  | y :: l, h, hl, x, hx, hp => by
    have hle : (l.filter q).length ≤ (l.filter p).length := by
      have : ∀ {m : List α}, (∀ x ∈ m, q x = true → p x = true) → (m.filter q).length ≤ (m.filter p).length := by
        intro m
        induction m with
        | nil => intro _; simp
        | cons z m ih =>
          intro hm
          have := ih fun x hx => hm x (List.mem_cons_of_mem _ hx)
          rw [List.filter_cons, List.filter_cons]
          by_cases hz : q z = true
          · rw [if_pos hz, if_pos (hm z List.mem_cons_self hz)]; simp; omega
          · rw [if_neg hz]
            split
            · simp; omega
            · exact this
      exact this fun x hx => h x (List.mem_cons_of_mem _ hx)
    rw [List.filter_cons, List.filter_cons] at hl
    by_cases py : p y = true
    · by_cases qy : q y = true
      · rw [if_pos py, if_pos qy] at hl
        rcases List.mem_cons.mp hx with rfl | hx
        · exact qy
        · exact filter_eq_len (fun x hx => h x (List.mem_cons_of_mem _ hx)) (by simpa using hl) x hx hp
      · rw [if_pos py, if_neg qy] at hl
        simp at hl
        omega
    · have qy : ¬ q y = true := fun z => py (h y List.mem_cons_self z)
      rw [if_neg py, if_neg qy] at hl
      rcases List.mem_cons.mp hx with rfl | hx
      · exact absurd hp py
      · exact filter_eq_len (fun x hx => h x (List.mem_cons_of_mem _ hx)) hl x hx hp
theorem cnt_le (g : Int → List Int) (N i : Nat) : cnt g N (i + 1) ≤ cnt g N i := by
  unfold cnt
  rw [← List.countP_eq_length_filter, ← List.countP_eq_length_filter]
  exact List.countP_mono_left fun x _ h => hgt_mono g i (x : Int) h
theorem cnt_drop (g : Int → List Int) (N : Nat) : ∀ m, (∀ i, i < m → cnt g N (i + 1) < cnt g N i) → cnt g N m + m ≤ cnt g N 0
  | 0, _ => by omega
  | m + 1, h => by
    have := cnt_drop g N m fun i hi => h i (by omega)
    have := h m (by omega)
    omega
/-- as many calls as there are functions: then there is no end -/
theorem wave_more {g : Int → List Int} {N : Nat} (hN : Inn g N) (h : wave g N ≠ []) : wave g (N + 1) ≠ [] := by
  rw [wave_ne] at h ⊢
  have c0 : cnt g N 0 ≤ N := by
    unfold cnt
    exact Nat.le_trans (List.length_filter_le _ _) (by simp)
  have cN : 0 < cnt g N N := by
    unfold cnt
    exact List.length_pos_of_mem (List.mem_filter.mpr ⟨List.mem_range.mpr hN.1, h⟩)
  have : ∃ i, i < N ∧ cnt g N i ≤ cnt g N (i + 1) := by
    apply Classical.byContradiction
    intro hn
    have := cnt_drop g N N fun i hi => by
      apply Classical.byContradiction
      intro h2
      exact hn ⟨i, hi, by omega⟩
    omega
  obtain ⟨i, hi, hc⟩ := this
  have st : ∀ a : Int, 0 ≤ a → a < N → hgt g i a = true → hgt g (i + 1) a = true := by
    intro a h1 h2 q
    have := filter_eq_len (l := List.range N) (p := fun a : Nat => hgt g i ((a : Nat) : Int)) (q := fun a : Nat => hgt g (i + 1) ((a : Nat) : Int)) (fun x _ => hgt_mono g i (x : Int)) hc a.toNat (List.mem_range.mpr (by omega)) (by
      show hgt g i ((a.toNat : Nat) : Int) = true
      rw [Int.toNat_of_nonneg h1]; exact q)
    rw [Int.toNat_of_nonneg h1] at this
    exact this
  have := hgt_stable hN st (N - i) 0 (by omega) (by have := hN.1; omega) (by rw [show i + (N - i) = N from by omega]; exact h)
  rwa [show i + (N - i) + 1 = N + 1 from by omega] at this
/-- the number of frames wanted -/
def FrOk (g : Int → List Int) (N : Nat) (o : Option Nat) : Prop :=
  (∃ i, o = some i ∧ i ≤ N ∧ wave g i = [] ∧ ∀ j, j < i → wave g j ≠ []) ∨ (o = none ∧ ∀ j, j ≤ N → wave g j ≠ [])
theorem FrOk.uniq {g : Int → List Int} {N : Nat} {a b : Option Nat} (h1 : FrOk g N a) (h2 : FrOk g N b) : a = b := by
  rcases h1 with ⟨i, rfl, i1, i2, i3⟩ | ⟨rfl, i1⟩
  · rcases h2 with ⟨j, rfl, j1, j2, j3⟩ | ⟨rfl, j1⟩
    · by_cases h : i < j
      · exact absurd i2 (j3 i h)
      · by_cases h' : j < i
        · exact absurd j2 (i3 j h')
        · rw [show i = j from by omega]
    · exact absurd i2 (j1 i i1)
  · rcases h2 with ⟨j, rfl, j1, j2, j3⟩ | ⟨rfl, j1⟩
    · exact absurd j2 (i1 j j1)
    · rfl
theorem wave_srt (g : Int → List Int) (i : Nat) : (wave g i).Pairwise (· < ·) := by
  cases i with
  | zero => simp [wave]
  | succ i => exact ssort_srt _
theorem wave_inn {g : Int → List Int} {N : Nat} (hN : Inn g N) : ∀ i, ∀ x ∈ wave g i, 0 ≤ x ∧ x < (N : Int)
  | 0, x, hx => by
    simp [wave] at hx
    have := hN.1
    omega
  | i + 1, x, hx => by
    obtain ⟨a, ha, q⟩ := List.mem_flatMap.mp ((ssort_mem _ _).mp hx)
    have := wave_inn hN i a ha
    exact hN.2 a this.1 this.2 x q
theorem wave_len {g : Int → List Int} {N : Nat} (hN : Inn g N) (i : Nat) : (wave g i).length ≤ N := by
  have := asc_len (l := wave g i) (a := 0) (N := N) (wave_srt g i) (wave_inn hN i)
  omega
end Vf
end L2
end
section
namespace L2
namespace K23
open PySem PySem.Spec PyProof.Rows L2.Vf
abbrev topS (i : Nat) : Stmt := PySem.Challenge.pw_lastremains_k23_whole_ways_calls_and_row.main.body.getD i (.Pass ⟨0, 0, 0, 0⟩)
def g_BOOK : MV := (.str [98, 111, 111, 107])
def g_FUNCTION : MV := (.str [102, 117, 110, 99, 116, 105, 111, 110])
def g_WORD : MV := (.str [119, 111, 114, 100])
def g_LINK : MV := (.str [108, 105, 110, 107])
def g_KINDS : MV := (.tup [(.str [119, 111, 114, 100]), (.str [108, 105, 110, 107])])
def g_VAL : MV := (.str [118, 97, 108])
def g_NEXT : MV := (.str [110, 101, 120, 116])
def g_PART_KINDS : MV := (.wd 0 [(.str [118, 97, 108]), (.str [110, 101, 120, 116])] [(.str [119, 111, 114, 100]), (.str [108, 105, 110, 107])])
def g_LEAST_WIDTH : MV := (.int 2)
def g_MOST_WIDTH : MV := (.int 8)
def g_MOST_DEPTH : MV := (.int 4)
def g_MOST_ROOM : MV := (.int 4)
def g_MOST_FUNCTIONS : MV := (.int 6)
def g_MOST_PARAMS : MV := (.int 3)
def g_MOST_NAMES : MV := (.int 8)
def g_MOST_BOOK_ROWS : MV := (.int 60)
def g_MOST_TERM_DEEP : MV := (.int 4)
def g_MOST_TITLE : MV := (.int 20)
def g_SMALL : MV := (.str [97, 98, 99, 100, 101, 102, 103, 104, 105, 106, 107, 108, 109, 110, 111, 112, 113, 114, 115, 116, 117, 118, 119, 120, 121, 122])
def g_TITLE_SIGNS : MV := (.str [97, 98, 99, 100, 101, 102, 103, 104, 105, 106, 107, 108, 109, 110, 111, 112, 113, 114, 115, 116, 117, 118, 119, 120, 121, 122, 48, 49, 50, 51, 52, 53, 54, 55, 56, 57])
def gl : List (Str × MV) := ("BOOK", g_BOOK) :: ("FUNCTION", g_FUNCTION) :: ("WORD", g_WORD) :: ("LINK", g_LINK) :: ("KINDS", g_KINDS) :: ("VAL", g_VAL) :: ("NEXT", g_NEXT) :: ("PART_KINDS", g_PART_KINDS) :: ("LEAST_WIDTH", g_LEAST_WIDTH) :: ("MOST_WIDTH", g_MOST_WIDTH) :: ("MOST_DEPTH", g_MOST_DEPTH) :: ("MOST_ROOM", g_MOST_ROOM) :: ("MOST_FUNCTIONS", g_MOST_FUNCTIONS) :: ("MOST_PARAMS", g_MOST_PARAMS) :: ("MOST_NAMES", g_MOST_NAMES) :: ("MOST_BOOK_ROWS", g_MOST_BOOK_ROWS) :: ("MOST_TERM_DEEP", g_MOST_TERM_DEEP) :: ("MOST_TITLE", g_MOST_TITLE) :: ("SMALL", g_SMALL) :: ("TITLE_SIGNS", g_TITLE_SIGNS) :: []
def fs : List (Str × (Nat × List Str × List (Nat × List Str))) := ("is_integer", (0, ["value"], [])) :: ("is_within", (1, ["value", "least", "most"], [])) :: ("is_tuple", (2, ["value", "many"], [])) :: ("is_title", (3, ["value"], [])) :: ("is_kind", (4, ["value"], [])) :: ("are_names_told", (5, ["value"], [])) :: ("is_head_told", (6, ["value"], [])) :: ("term_kind", (7, ["width", "kinds", "term", "deep"], [])) :: ("is_worded_row", (8, ["value", "word", "many"], [])) :: ("is_named", (9, ["kinds", "name", "kind"], [])) :: ("is_call_row", (10, ["book", "kinds", "row"], [])) :: ("is_link_row", (11, ["book", "kinds", "row"], [])) :: ("is_row_in", (12, ["book", "function", "row"], [])) :: ("is_book_head", (13, ["value"], [])) :: ("is_book_any", (14, ["value"], [])) :: ("want_book", (15, ["book"], [])) :: ("rows_of_function", (16, ["book", "function"], [])) :: ("ways_of_row", (17, ["book", "function", "row"], [])) :: ("rows_from_begin", (18, ["book", "function"], [])) :: ("calls_of", (19, ["book", "function"], [])) :: ("functions_reached", (20, ["book"], [])) :: ("frames_of_calls", (21, ["book"], [])) :: ("want_function_of", (22, ["book", "function"], [])) :: ("is_book", (23, ["value"], [])) :: ("row_ways", (24, ["book", "function", "row"], [(0, ["row", "function", "book"])])) :: ("called_by", (25, ["book", "function"], [(0, ["function", "book"])])) :: ("reached_rows", (26, ["book"], [(0, ["book"])])) :: ("frames_wanted", (27, ["book"], [(0, ["book"])])) :: ("_law_pot", (28, ["script", "k"], [])) :: ("_law_draw", (29, ["pot", "many"], [])) :: ("_law_pick", (30, ["pot", "some"], [])) :: ("_law_row", (31, ["pot", "functions", "many"], [])) :: ("_law_book", (32, ["pot"], [])) :: ("_law_ways", (33, ["rows", "at"], [])) :: ("_law_closed", (34, ["begin", "coming"], [])) :: ("_law_frames", (35, ["calls"], [])) :: ("_law_right", (36, ["pot"], [])) :: ("law", (37, ["script"], [])) :: []
def bn : List Str := ["abs", "all", "bool", "dict", "divmod", "enumerate", "int", "isinstance", "len", "max", "min", "range", "repr", "set", "sorted", "str", "tuple"]
/-! is_integer -/
abbrev s_is_integer : Stmt := topS 1
def n_is_integer : List Str := ["value"]
def d_is_integer : DS := (seqS (retS (andV (opND isiN (consD (varD 0) (consD (conD (.ty 2)) nilD))) (notV (opND isiN (consD (varD 0) (consD (conD (.ty 1)) nilD)))))) passS)
set_option maxRecDepth 100000 in
theorem c_is_integer : cSs (cS (cE deepE) (cT deepE) deepE ⟨n_is_integer, (defScope s_is_integer).names, gl, fs, bn⟩) (defBody s_is_integer) = some d_is_integer := by kernel_rfl
theorem sc_is_integer : FnScope n_is_integer ["value"] (defScope s_is_integer) := ⟨by kernel_rfl, by kernel_rfl, by kernel_rfl, by decide +kernel, by kernel_rfl, by decide +kernel, by decide +kernel⟩
/-! is_within -/
abbrev s_is_within : Stmt := topS 2
def n_is_within : List Str := ["value", "least", "most"]
def d_is_within : DS := (seqS (retS (andV (callD 0 1 (consD (varD 0) nilD)) (chainD leM leM (varD 1) (varD 0) (varD 2)))) passS)
set_option maxRecDepth 100000 in
theorem c_is_within : cSs (cS (cE deepE) (cT deepE) deepE ⟨n_is_within, (defScope s_is_within).names, gl, fs, bn⟩) (defBody s_is_within) = some d_is_within := by kernel_rfl
theorem sc_is_within : FnScope n_is_within ["value", "least", "most"] (defScope s_is_within) := ⟨by kernel_rfl, by kernel_rfl, by kernel_rfl, by decide +kernel, by kernel_rfl, by decide +kernel, by decide +kernel⟩
/-! is_tuple -/
abbrev s_is_tuple : Stmt := topS 3
def n_is_tuple : List Str := ["value", "many"]
def d_is_tuple : DS := (seqS (retS (andV (opND isiN (consD (varD 0) (consD (conD (.ty 5)) nilD))) (op2D eqM (opND lenN (consD (varD 0) nilD)) (varD 1)))) passS)
set_option maxRecDepth 100000 in
theorem c_is_tuple : cSs (cS (cE deepE) (cT deepE) deepE ⟨n_is_tuple, (defScope s_is_tuple).names, gl, fs, bn⟩) (defBody s_is_tuple) = some d_is_tuple := by kernel_rfl
theorem sc_is_tuple : FnScope n_is_tuple ["value", "many"] (defScope s_is_tuple) := ⟨by kernel_rfl, by kernel_rfl, by kernel_rfl, by decide +kernel, by kernel_rfl, by decide +kernel, by decide +kernel⟩
/-! is_title -/
abbrev s_is_title : Stmt := topS 30
def n_is_title : List Str := ["value", "sign"]
def ce_is_title_0 : DE := (op2D inM (varD 1) (conD g_TITLE_SIGNS))
def d_is_title : DS := (seqS (ifS (orD (notD (truD (opND isiN (consD (varD 0) (consD (conD (.ty 3)) nilD))))) (notD (boolD (chainD leM leM (conD (.int 1)) (opND lenN (consD (varD 0) nilD)) (conD g_MOST_TITLE))))) (seqS (retS (conD (.bl false))) passS) passS) (seqS (retS (andV (op2D inM (op2D ixM (varD 0) (conD (.int 0))) (conD g_SMALL)) (opND allN (consD (lcD (anyI (varD 0)) [1] (nameG 1) yesD ce_is_title_0) nilD)))) passS))
set_option maxRecDepth 100000 in
theorem c_is_title : cSs (cS (cE deepE) (cT deepE) deepE ⟨n_is_title, (defScope s_is_title).names, gl, fs, bn⟩) (defBody s_is_title) = some d_is_title := by kernel_rfl
theorem sc_is_title : FnScope n_is_title ["value"] (defScope s_is_title) := ⟨by kernel_rfl, by kernel_rfl, by kernel_rfl, by decide +kernel, by kernel_rfl, by decide +kernel, by decide +kernel⟩
/-! is_kind -/
abbrev s_is_kind : Stmt := topS 31
def n_is_kind : List Str := ["value"]
def d_is_kind : DS := (seqS (retS (andV (opND isiN (consD (varD 0) (consD (conD (.ty 3)) nilD))) (op2D inM (varD 0) (conD g_KINDS)))) passS)
set_option maxRecDepth 100000 in
theorem c_is_kind : cSs (cS (cE deepE) (cT deepE) deepE ⟨n_is_kind, (defScope s_is_kind).names, gl, fs, bn⟩) (defBody s_is_kind) = some d_is_kind := by kernel_rfl
theorem sc_is_kind : FnScope n_is_kind ["value"] (defScope s_is_kind) := ⟨by kernel_rfl, by kernel_rfl, by kernel_rfl, by decide +kernel, by kernel_rfl, by decide +kernel, by decide +kernel⟩
/-! are_names_told -/
abbrev s_are_names_told : Stmt := topS 32
def n_are_names_told : List Str := ["value", "one"]
def ce_are_names_told_0 : DE := (op2D ixM (varD 1) (conD (.int 0)))
def ce_are_names_told_1 : DE := (andV (callD 3 1 (consD (op2D ixM (varD 1) (conD (.int 0))) nilD)) (callD 4 1 (consD (op2D ixM (varD 1) (conD (.int 1))) nilD)))
def ce_are_names_told_2 : DE := (callD 2 2 (consD (varD 1) (consD (conD (.int 2)) nilD)))
def d_are_names_told : DS := (seqS (ifS (orD (notD (truD (opND isiN (consD (varD 0) (consD (conD (.ty 5)) nilD))))) (orD (boolD (op2D gtM (opND lenN (consD (varD 0) nilD)) (conD g_MOST_NAMES))) (notD (truD (opND allN (consD (lcD (anyI (varD 0)) [1] (nameG 1) yesD ce_are_names_told_2) nilD)))))) (seqS (retS (conD (.bl false))) passS) passS) (seqS (ifS (notD (truD (opND allN (consD (lcD (anyI (varD 0)) [1] (nameG 1) yesD ce_are_names_told_1) nilD)))) (seqS (retS (conD (.bl false))) passS) passS) (seqS (retS (op2D eqM (op1D lenSetM (lcD (anyI (varD 0)) [1] (nameG 1) yesD ce_are_names_told_0)) (opND lenN (consD (varD 0) nilD)))) passS)))
set_option maxRecDepth 100000 in
theorem c_are_names_told : cSs (cS (cE deepE) (cT deepE) deepE ⟨n_are_names_told, (defScope s_are_names_told).names, gl, fs, bn⟩) (defBody s_are_names_told) = some d_are_names_told := by kernel_rfl
theorem sc_are_names_told : FnScope n_are_names_told ["value"] (defScope s_are_names_told) := ⟨by kernel_rfl, by kernel_rfl, by kernel_rfl, by decide +kernel, by kernel_rfl, by decide +kernel, by decide +kernel⟩
/-! is_head_told -/
abbrev s_is_head_told : Stmt := topS 33
def n_is_head_told : List Str := ["value"]
def d_is_head_told : DS := (seqS (ifS (orD (notD (truD (callD 2 2 (consD (varD 0) (consD (conD (.int 6)) nilD))))) (orD (notD (truD (opND isiN (consD (op2D ixM (varD 0) (conD (.int 0))) (consD (conD (.ty 3)) nilD))))) (orD (boolD (op2D neM (op2D ixM (varD 0) (conD (.int 0))) (conD g_FUNCTION))) (notD (truD (callD 3 1 (consD (op2D ixM (varD 0) (conD (.int 1))) nilD))))))) (seqS (retS (conD (.bl false))) passS) passS) (seqS (ifS (orD (notD (truD (callD 1 3 (consD (op2D ixM (varD 0) (conD (.int 2))) (consD (conD (.int 0)) (consD (conD g_MOST_PARAMS) nilD)))))) (orD (notD (truD (callD 5 1 (consD (op2D ixM (varD 0) (conD (.int 3))) nilD)))) (boolD (op2D gtM (op2D ixM (varD 0) (conD (.int 2))) (opND lenN (consD (op2D ixM (varD 0) (conD (.int 3))) nilD)))))) (seqS (retS (conD (.bl false))) passS) passS) (seqS (retS (andV (callD 4 1 (consD (op2D ixM (varD 0) (conD (.int 4))) nilD)) (andV (opND isiN (consD (op2D ixM (varD 0) (conD (.int 5))) (consD (conD (.ty 5)) nilD))) (chainD leM leM (conD (.int 1)) (opND lenN (consD (op2D ixM (varD 0) (conD (.int 5))) nilD)) (conD g_MOST_BOOK_ROWS))))) passS)))
set_option maxRecDepth 100000 in
theorem c_is_head_told : cSs (cS (cE deepE) (cT deepE) deepE ⟨n_is_head_told, (defScope s_is_head_told).names, gl, fs, bn⟩) (defBody s_is_head_told) = some d_is_head_told := by kernel_rfl
theorem sc_is_head_told : FnScope n_is_head_told ["value"] (defScope s_is_head_told) := ⟨by kernel_rfl, by kernel_rfl, by kernel_rfl, by decide +kernel, by kernel_rfl, by decide +kernel, by decide +kernel⟩
/-! term_kind -/
abbrev s_term_kind : Stmt := topS 34
def n_term_kind : List Str := ["width", "kinds", "term", "deep", "near", "far", "one"]
def ce_term_kind_0 : DE := (callD 7 4 (consD (varD 0) (consD (varD 1) (consD (varD 6) (consD (op2D subM (varD 3) (conD (.int 1))) nilD)))))
def d_term_kind : DS := (seqS (ifS (orD (notD (truD (opND isiN (consD (varD 2) (consD (conD (.ty 5)) nilD))))) (orD (boolD (op2D eqM (varD 2) (opND tupM nilD))) (orD (notD (truD (opND isiN (consD (op2D ixM (varD 2) (conD (.int 0))) (consD (conD (.ty 3)) nilD))))) (boolD (op2D ltM (varD 3) (conD (.int 1))))))) (seqS (retS (conD .non)) passS) passS) (seqS (ifS (boolD (op2D eqM (op2D ixM (varD 2) (conD (.int 0))) (conD g_WORD))) (seqS (retS (ifD (andD (boolD (op2D eqM (opND lenN (consD (varD 2) nilD)) (conD (.int 2)))) (truD (callD 1 3 (consD (op2D ixM (varD 2) (conD (.int 1))) (consD (conD (.int 0)) (consD (op2D subM (varD 0) (conD (.int 1))) nilD)))))) (conD g_WORD) (conD .non))) passS) passS) (seqS (ifS (boolD (op2D eqM (op2D ixM (varD 2) (conD (.int 0))) (conD (.str [110, 105, 108])))) (seqS (retS (ifD (boolD (op2D eqM (opND lenN (consD (varD 2) nilD)) (conD (.int 1)))) (conD g_LINK) (conD .non))) passS) passS) (seqS (ifS (boolD (op2D eqM (op2D ixM (varD 2) (conD (.int 0))) (conD (.str [110, 97, 109, 101])))) (seqS (retS (ifD (andD (boolD (op2D eqM (opND lenN (consD (varD 2) nilD)) (conD (.int 2)))) (truD (opND isiN (consD (op2D ixM (varD 2) (conD (.int 1))) (consD (conD (.ty 3)) nilD))))) (methAD [(isDctM, getDM)] (varD 1) (consD (op2D ixM (varD 2) (conD (.int 1))) (consD (conD .non) nilD))) (conD .non))) passS) passS) (seqS (ifS (orD (boolD (op2D notinM (op2D ixM (varD 2) (conD (.int 0))) (opND tupM (consD (conD (.str [112, 108, 117, 115])) (consD (conD (.str [108, 101, 115, 115])) (consD (conD (.str [115, 97, 109, 101])) nilD)))))) (boolD (op2D neM (opND lenN (consD (varD 2) nilD)) (conD (.int 3))))) (seqS (retS (conD .non)) passS) passS) (seqS (asgS (lcD (anyI (sliceD (varD 2) (partD (conD (.int 1))) noPartD)) [6] (nameG 6) yesD ce_term_kind_0) (tupG 2 (consG (nameG 4) (consG (nameG 5) nilG)))) (seqS (ifS (orD (boolD (op2D isM (varD 4) (conD .non))) (boolD (op2D neM (varD 4) (varD 5)))) (seqS (retS (conD .non)) passS) passS) (seqS (retS (ifD (orD (boolD (op2D eqM (varD 4) (conD g_WORD))) (boolD (op2D eqM (op2D ixM (varD 2) (conD (.int 0))) (conD (.str [115, 97, 109, 101]))))) (conD g_WORD) (conD .non))) passS))))))))
set_option maxRecDepth 100000 in
theorem c_term_kind : cSs (cS (cE deepE) (cT deepE) deepE ⟨n_term_kind, (defScope s_term_kind).names, gl, fs, bn⟩) (defBody s_term_kind) = some d_term_kind := by kernel_rfl
theorem sc_term_kind : FnScope n_term_kind ["width", "kinds", "term", "deep"] (defScope s_term_kind) := ⟨by kernel_rfl, by kernel_rfl, by kernel_rfl, by decide +kernel, by kernel_rfl, by decide +kernel, by decide +kernel⟩
/-! is_worded_row -/
abbrev s_is_worded_row : Stmt := topS 35
def n_is_worded_row : List Str := ["value", "word", "many"]
def d_is_worded_row : DS := (seqS (retS (andV (callD 2 2 (consD (varD 0) (consD (varD 2) nilD))) (andV (opND isiN (consD (op2D ixM (varD 0) (conD (.int 0))) (consD (conD (.ty 3)) nilD))) (op2D eqM (op2D ixM (varD 0) (conD (.int 0))) (varD 1))))) passS)
set_option maxRecDepth 100000 in
theorem c_is_worded_row : cSs (cS (cE deepE) (cT deepE) deepE ⟨n_is_worded_row, (defScope s_is_worded_row).names, gl, fs, bn⟩) (defBody s_is_worded_row) = some d_is_worded_row := by kernel_rfl
theorem sc_is_worded_row : FnScope n_is_worded_row ["value", "word", "many"] (defScope s_is_worded_row) := ⟨by kernel_rfl, by kernel_rfl, by kernel_rfl, by decide +kernel, by kernel_rfl, by decide +kernel, by decide +kernel⟩
/-! is_named -/
abbrev s_is_named : Stmt := topS 36
def n_is_named : List Str := ["kinds", "name", "kind"]
def d_is_named : DS := (seqS (retS (andV (opND isiN (consD (varD 1) (consD (conD (.ty 3)) nilD))) (op2D eqM (methAD [(isDctM, getDM)] (varD 0) (consD (varD 1) (consD (conD .non) nilD))) (varD 2)))) passS)
set_option maxRecDepth 100000 in
theorem c_is_named : cSs (cS (cE deepE) (cT deepE) deepE ⟨n_is_named, (defScope s_is_named).names, gl, fs, bn⟩) (defBody s_is_named) = some d_is_named := by kernel_rfl
theorem sc_is_named : FnScope n_is_named ["kinds", "name", "kind"] (defScope s_is_named) := ⟨by kernel_rfl, by kernel_rfl, by kernel_rfl, by decide +kernel, by kernel_rfl, by decide +kernel, by decide +kernel⟩
/-! is_call_row -/
abbrev s_is_call_row : Stmt := topS 37
def n_is_call_row : List Str := ["book", "kinds", "row", "told", "word", "name", "params", "names", "result", "rows", "term", "one"]
def ce_is_call_row_0 : DE := (op2D ixM (varD 11) (conD (.int 1)))
def ce_is_call_row_1 : DE := (callD 7 4 (consD (op2D ixM (varD 0) (conD (.int 1))) (consD (varD 1) (consD (varD 10) (consD (conD g_MOST_TERM_DEEP) nilD)))))
def d_is_call_row : DS := (seqS (ifS (orD (notD (truD (callD 8 3 (consD (varD 2) (consD (conD (.str [99, 97, 108, 108])) (consD (conD (.int 4)) nilD)))))) (orD (notD (truD (callD 1 3 (consD (op2D ixM (varD 2) (conD (.int 2))) (consD (conD (.int 0)) (consD (op2D subM (opND lenN (consD (op2D ixM (varD 0) (conD (.int 4))) nilD)) (conD (.int 1))) nilD)))))) (notD (truD (opND isiN (consD (op2D ixM (varD 2) (conD (.int 3))) (consD (conD (.ty 5)) nilD))))))) (seqS (retS (conD (.bl false))) passS) passS) (seqS (asgS (op2D ixM (op2D ixM (varD 0) (conD (.int 4))) (op2D ixM (varD 2) (conD (.int 2)))) (tupG 6 (consG (nameG 4) (consG (nameG 5) (consG (nameG 6) (consG (nameG 7) (consG (nameG 8) (consG (nameG 9) nilG)))))))) (seqS (ifS (orD (notD (truD (callD 9 3 (consD (varD 1) (consD (op2D ixM (varD 2) (conD (.int 1))) (consD (varD 8) nilD)))))) (boolD (op2D neM (opND lenN (consD (op2D ixM (varD 2) (conD (.int 3))) nilD)) (varD 6)))) (seqS (retS (conD (.bl false))) passS) passS) (seqS (setS 3 (lcD (anyI (op2D ixM (varD 2) (conD (.int 3)))) [10] (nameG 10) yesD ce_is_call_row_1)) (seqS (retS (op2D eqM (varD 3) (lcD (anyI (sliceD (varD 7) noPartD (partD (varD 6)))) [11] (nameG 11) yesD ce_is_call_row_0))) passS)))))
set_option maxRecDepth 100000 in
theorem c_is_call_row : cSs (cS (cE deepE) (cT deepE) deepE ⟨n_is_call_row, (defScope s_is_call_row).names, gl, fs, bn⟩) (defBody s_is_call_row) = some d_is_call_row := by kernel_rfl
theorem sc_is_call_row : FnScope n_is_call_row ["book", "kinds", "row"] (defScope s_is_call_row) := ⟨by kernel_rfl, by kernel_rfl, by kernel_rfl, by decide +kernel, by kernel_rfl, by decide +kernel, by decide +kernel⟩
/-! is_link_row -/
abbrev s_is_link_row : Stmt := topS 38
def n_is_link_row : List Str := ["book", "kinds", "row"]
def d_is_link_row : DS := (seqS (ifS (truD (callD 8 3 (consD (varD 2) (consD (conD (.str [110, 101, 119])) (consD (conD (.int 2)) nilD))))) (seqS (retS (callD 9 3 (consD (varD 1) (consD (op2D ixM (varD 2) (conD (.int 1))) (consD (conD g_LINK) nilD))))) passS) passS) (seqS (ifS (andD (truD (callD 8 3 (consD (varD 2) (consD (conD (.str [103, 101, 116])) (consD (conD (.int 4)) nilD))))) (andD (truD (opND isiN (consD (op2D ixM (varD 2) (conD (.int 3))) (consD (conD (.ty 3)) nilD)))) (boolD (op2D inM (op2D ixM (varD 2) (conD (.int 3))) (conD g_PART_KINDS))))) (seqS (retS (andV (callD 9 3 (consD (varD 1) (consD (op2D ixM (varD 2) (conD (.int 1))) (consD (op2D ixM (conD g_PART_KINDS) (op2D ixM (varD 2) (conD (.int 3)))) nilD)))) (callD 9 3 (consD (varD 1) (consD (op2D ixM (varD 2) (conD (.int 2))) (consD (conD g_LINK) nilD)))))) passS) passS) (seqS (ifS (orD (notD (truD (callD 8 3 (consD (varD 2) (consD (conD (.str [112, 117, 116])) (consD (conD (.int 4)) nilD)))))) (orD (notD (truD (opND isiN (consD (op2D ixM (varD 2) (conD (.int 2))) (consD (conD (.ty 3)) nilD))))) (boolD (op2D notinM (op2D ixM (varD 2) (conD (.int 2))) (conD g_PART_KINDS))))) (seqS (retS (conD (.bl false))) passS) passS) (seqS (retS (andV (callD 9 3 (consD (varD 1) (consD (op2D ixM (varD 2) (conD (.int 1))) (consD (conD g_LINK) nilD)))) (op2D eqM (callD 7 4 (consD (op2D ixM (varD 0) (conD (.int 1))) (consD (varD 1) (consD (op2D ixM (varD 2) (conD (.int 3))) (consD (conD g_MOST_TERM_DEEP) nilD))))) (op2D ixM (conD g_PART_KINDS) (op2D ixM (varD 2) (conD (.int 2))))))) passS))))
set_option maxRecDepth 100000 in
theorem c_is_link_row : cSs (cS (cE deepE) (cT deepE) deepE ⟨n_is_link_row, (defScope s_is_link_row).names, gl, fs, bn⟩) (defBody s_is_link_row) = some d_is_link_row := by kernel_rfl
theorem sc_is_link_row : FnScope n_is_link_row ["book", "kinds", "row"] (defScope s_is_link_row) := ⟨by kernel_rfl, by kernel_rfl, by kernel_rfl, by decide +kernel, by kernel_rfl, by decide +kernel, by decide +kernel⟩
/-! is_row_in -/
abbrev s_is_row_in : Stmt := topS 39
def n_is_row_in : List Str := ["book", "function", "row", "word", "name", "params", "names", "result", "rows", "kinds", "width", "told"]
def d_is_row_in : DS := (seqS (asgS (op2D ixM (op2D ixM (varD 0) (conD (.int 4))) (varD 1)) (tupG 6 (consG (nameG 3) (consG (nameG 4) (consG (nameG 5) (consG (nameG 6) (consG (nameG 7) (consG (nameG 8) nilG)))))))) (seqS (par2S 9 10 (consD (opND dictN (consD (varD 6) nilD)) (consD (op2D ixM (varD 0) (conD (.int 1))) nilD))) (seqS (ifS (truD (callD 8 3 (consD (varD 2) (consD (conD (.str [115, 101, 116])) (consD (conD (.int 3)) nilD))))) (seqS (setS 11 (callD 7 4 (consD (varD 10) (consD (varD 9) (consD (op2D ixM (varD 2) (conD (.int 2))) (consD (conD g_MOST_TERM_DEEP) nilD)))))) (seqS (retS (andV (op2D isnotM (varD 11) (conD .non)) (callD 9 3 (consD (varD 9) (consD (op2D ixM (varD 2) (conD (.int 1))) (consD (varD 11) nilD)))))) passS)) passS) (seqS (ifS (truD (callD 8 3 (consD (varD 2) (consD (conD (.str [97, 115, 107])) (consD (conD (.int 2)) nilD))))) (seqS (retS (callD 9 3 (consD (varD 9) (consD (op2D ixM (varD 2) (conD (.int 1))) (consD (conD g_WORD) nilD))))) passS) passS) (seqS (ifS (orD (truD (callD 8 3 (consD (varD 2) (consD (conD (.str [111, 117, 116])) (consD (conD (.int 2)) nilD))))) (truD (callD 8 3 (consD (varD 2) (consD (conD (.str [110, 101, 101, 100])) (consD (conD (.int 2)) nilD)))))) (seqS (retS (op2D eqM (callD 7 4 (consD (varD 10) (consD (varD 9) (consD (op2D ixM (varD 2) (conD (.int 1))) (consD (conD g_MOST_TERM_DEEP) nilD))))) (conD g_WORD))) passS) passS) (seqS (ifS (truD (callD 8 3 (consD (varD 2) (consD (conD (.str [103, 111])) (consD (conD (.int 2)) nilD))))) (seqS (retS (callD 1 3 (consD (op2D ixM (varD 2) (conD (.int 1))) (consD (conD (.int 0)) (consD (op2D subM (opND lenN (consD (varD 8) nilD)) (conD (.int 1))) nilD))))) passS) passS) (seqS (ifS (truD (callD 8 3 (consD (varD 2) (consD (conD (.str [116, 101, 115, 116])) (consD (conD (.int 3)) nilD))))) (seqS (retS (andV (op2D eqM (callD 7 4 (consD (varD 10) (consD (varD 9) (consD (op2D ixM (varD 2) (conD (.int 1))) (consD (conD g_MOST_TERM_DEEP) nilD))))) (conD g_WORD)) (callD 1 3 (consD (op2D ixM (varD 2) (conD (.int 2))) (consD (conD (.int 0)) (consD (op2D subM (opND lenN (consD (varD 8) nilD)) (conD (.int 1))) nilD)))))) passS) passS) (seqS (ifS (truD (callD 8 3 (consD (varD 2) (consD (conD (.str [114, 101, 116, 117, 114, 110])) (consD (conD (.int 2)) nilD))))) (seqS (retS (op2D eqM (callD 7 4 (consD (varD 10) (consD (varD 9) (consD (op2D ixM (varD 2) (conD (.int 1))) (consD (conD g_MOST_TERM_DEEP) nilD))))) (varD 7))) passS) passS) (seqS (retS (orV (callD 10 3 (consD (varD 0) (consD (varD 9) (consD (varD 2) nilD)))) (callD 11 3 (consD (varD 0) (consD (varD 9) (consD (varD 2) nilD)))))) passS)))))))))
set_option maxRecDepth 100000 in
theorem c_is_row_in : cSs (cS (cE deepE) (cT deepE) deepE ⟨n_is_row_in, (defScope s_is_row_in).names, gl, fs, bn⟩) (defBody s_is_row_in) = some d_is_row_in := by kernel_rfl
theorem sc_is_row_in : FnScope n_is_row_in ["book", "function", "row"] (defScope s_is_row_in) := ⟨by kernel_rfl, by kernel_rfl, by kernel_rfl, by decide +kernel, by kernel_rfl, by decide +kernel, by decide +kernel⟩
/-! is_book_head -/
abbrev s_is_book_head : Stmt := topS 40
def n_is_book_head : List Str := ["value", "one"]
def ce_is_book_head_0 : DE := (op2D ixM (varD 1) (conD (.int 1)))
def ce_is_book_head_1 : DE := (callD 6 1 (consD (varD 1) nilD))
def d_is_book_head : DS := (seqS (ifS (orD (notD (truD (callD 2 2 (consD (varD 0) (consD (conD (.int 5)) nilD))))) (orD (notD (truD (opND isiN (consD (op2D ixM (varD 0) (conD (.int 0))) (consD (conD (.ty 3)) nilD))))) (boolD (op2D neM (op2D ixM (varD 0) (conD (.int 0))) (conD g_BOOK))))) (seqS (retS (conD (.bl false))) passS) passS) (seqS (ifS (orD (notD (truD (callD 1 3 (consD (op2D ixM (varD 0) (conD (.int 1))) (consD (conD g_LEAST_WIDTH) (consD (conD g_MOST_WIDTH) nilD)))))) (notD (truD (callD 1 3 (consD (op2D ixM (varD 0) (conD (.int 2))) (consD (conD (.int 1)) (consD (conD g_MOST_DEPTH) nilD))))))) (seqS (retS (conD (.bl false))) passS) passS) (seqS (ifS (orD (notD (truD (callD 1 3 (consD (op2D ixM (varD 0) (conD (.int 3))) (consD (conD (.int 0)) (consD (conD g_MOST_ROOM) nilD)))))) (notD (truD (opND isiN (consD (op2D ixM (varD 0) (conD (.int 4))) (consD (conD (.ty 5)) nilD)))))) (seqS (retS (conD (.bl false))) passS) passS) (seqS (ifS (orD (notD (boolD (chainD leM leM (conD (.int 1)) (opND lenN (consD (op2D ixM (varD 0) (conD (.int 4))) nilD)) (conD g_MOST_FUNCTIONS)))) (notD (truD (opND allN (consD (lcD (anyI (op2D ixM (varD 0) (conD (.int 4)))) [1] (nameG 1) yesD ce_is_book_head_1) nilD))))) (seqS (retS (conD (.bl false))) passS) passS) (seqS (ifS (boolD (op2D neM (op1D lenSetM (lcD (anyI (op2D ixM (varD 0) (conD (.int 4)))) [1] (nameG 1) yesD ce_is_book_head_0)) (opND lenN (consD (op2D ixM (varD 0) (conD (.int 4))) nilD)))) (seqS (retS (conD (.bl false))) passS) passS) (seqS (retS (andV (op2D eqM (op2D ixM (op2D ixM (op2D ixM (varD 0) (conD (.int 4))) (conD (.int 0))) (conD (.int 2))) (conD (.int 0))) (op2D eqM (op2D ixM (op2D ixM (op2D ixM (varD 0) (conD (.int 4))) (conD (.int 0))) (conD (.int 4))) (conD g_WORD)))) passS))))))
set_option maxRecDepth 100000 in
theorem c_is_book_head : cSs (cS (cE deepE) (cT deepE) deepE ⟨n_is_book_head, (defScope s_is_book_head).names, gl, fs, bn⟩) (defBody s_is_book_head) = some d_is_book_head := by kernel_rfl
theorem sc_is_book_head : FnScope n_is_book_head ["value"] (defScope s_is_book_head) := ⟨by kernel_rfl, by kernel_rfl, by kernel_rfl, by decide +kernel, by kernel_rfl, by decide +kernel, by decide +kernel⟩
/-! is_book_any -/
abbrev s_is_book_any : Stmt := topS 41
def n_is_book_any : List Str := ["value", "function", "told", "row"]
def ce_is_book_any_0 : DE := (callD 12 3 (consD (varD 0) (consD (varD 1) (consD (varD 3) nilD))))
def fb_is_book_any_1 : DS := (seqS (ifS (orD (notD (truD (opND allN (consD (lcD (anyI (op2D ixM (varD 2) (conD (.int 5)))) [3] (nameG 3) yesD ce_is_book_any_0) nilD)))) (boolD (op2D notinM (op2D ixM (op2D ixM (op2D ixM (varD 2) (conD (.int 5))) (op1D negM (conD (.int 1)))) (conD (.int 0))) (opND tupM (consD (conD (.str [103, 111])) (consD (conD (.str [114, 101, 116, 117, 114, 110])) nilD)))))) (seqS (retS (conD (.bl false))) passS) passS) passS)
def d_is_book_any : DS := (seqS (ifS (notD (truD (callD 13 1 (consD (varD 0) nilD)))) (seqS (retS (conD (.bl false))) passS) passS) (seqS (forS (enumI (consD (op2D ixM (varD 0) (conD (.int 4))) nilD)) (tupG 2 (consG (nameG 1) (consG (nameG 2) nilG))) fb_is_book_any_1) (seqS (retS (conD (.bl true))) passS)))
set_option maxRecDepth 100000 in
theorem c_is_book_any : cSs (cS (cE deepE) (cT deepE) deepE ⟨n_is_book_any, (defScope s_is_book_any).names, gl, fs, bn⟩) (defBody s_is_book_any) = some d_is_book_any := by kernel_rfl
theorem sc_is_book_any : FnScope n_is_book_any ["value"] (defScope s_is_book_any) := ⟨by kernel_rfl, by kernel_rfl, by kernel_rfl, by decide +kernel, by kernel_rfl, by decide +kernel, by decide +kernel⟩
/-! want_book -/
abbrev s_want_book : Stmt := topS 42
def n_want_book : List Str := ["book"]
def d_want_book : DS := (seqS (ifS (notD (truD (callD 14 1 (consD (varD 0) nilD)))) (seqS stuckS passS) passS) passS)
set_option maxRecDepth 100000 in
theorem c_want_book : cSs (cS (cE deepE) (cT deepE) deepE ⟨n_want_book, (defScope s_want_book).names, gl, fs, bn⟩) (defBody s_want_book) = some d_want_book := by kernel_rfl
theorem sc_want_book : FnScope n_want_book ["book"] (defScope s_want_book) := ⟨by kernel_rfl, by kernel_rfl, by kernel_rfl, by decide +kernel, by kernel_rfl, by decide +kernel, by decide +kernel⟩
/-! rows_of_function -/
abbrev s_rows_of_function : Stmt := topS 43
def n_rows_of_function : List Str := ["book", "function"]
def d_rows_of_function : DS := (seqS (retS (op2D ixM (op2D ixM (op2D ixM (varD 0) (conD (.int 4))) (varD 1)) (conD (.int 5)))) passS)
set_option maxRecDepth 100000 in
theorem c_rows_of_function : cSs (cS (cE deepE) (cT deepE) deepE ⟨n_rows_of_function, (defScope s_rows_of_function).names, gl, fs, bn⟩) (defBody s_rows_of_function) = some d_rows_of_function := by kernel_rfl
theorem sc_rows_of_function : FnScope n_rows_of_function ["book", "function"] (defScope s_rows_of_function) := ⟨by kernel_rfl, by kernel_rfl, by kernel_rfl, by decide +kernel, by kernel_rfl, by decide +kernel, by decide +kernel⟩
/-! ways_of_row -/
abbrev s_ways_of_row : Stmt := topS 45
def n_ways_of_row : List Str := ["book", "function", "row", "told"]
def d_ways_of_row : DS := (seqS (setS 3 (op2D ixM (callD 16 2 (consD (varD 0) (consD (varD 1) nilD))) (varD 2))) (seqS (ifS (boolD (op2D eqM (op2D ixM (varD 3) (conD (.int 0))) (conD (.str [114, 101, 116, 117, 114, 110])))) (seqS (retS (opND lstM nilD)) passS) passS) (seqS (ifS (boolD (op2D eqM (op2D ixM (varD 3) (conD (.int 0))) (conD (.str [103, 111])))) (seqS (retS (opND lstM (consD (op2D ixM (varD 3) (conD (.int 1))) nilD))) passS) passS) (seqS (retS (ifD (boolD (op2D eqM (op2D ixM (varD 3) (conD (.int 0))) (conD (.str [116, 101, 115, 116])))) (op1D srtSetM (opND lstM (consD (op2D addM (varD 2) (conD (.int 1))) (consD (op2D ixM (varD 3) (conD (.int 2))) nilD)))) (opND lstM (consD (op2D addM (varD 2) (conD (.int 1))) nilD)))) passS))))
set_option maxRecDepth 100000 in
theorem c_ways_of_row : cSs (cS (cE deepE) (cT deepE) deepE ⟨n_ways_of_row, (defScope s_ways_of_row).names, gl, fs, bn⟩) (defBody s_ways_of_row) = some d_ways_of_row := by kernel_rfl
theorem sc_ways_of_row : FnScope n_ways_of_row ["book", "function", "row"] (defScope s_ways_of_row) := ⟨by kernel_rfl, by kernel_rfl, by kernel_rfl, by decide +kernel, by kernel_rfl, by decide +kernel, by decide +kernel⟩
/-! rows_from_begin -/
abbrev s_rows_from_begin : Stmt := topS 46
def n_rows_from_begin : List Str := ["book", "function", "found", "left", "late"]
def wc_rows_from_begin_0 : DB := (boolD (op2D neM (varD 3) (opND lstM nilD)))
def fb_rows_from_begin_1 : DS := (seqS (ifS (boolD (op2D notinM (varD 4) (varD 2))) (seqS (asgS (conD (.bl true)) (subG (varD 2) (varD 4))) (seqS (exprS (methAD [(isLstM, appendM)] (varD 3) (consD (varD 4) nilD))) passS)) passS) passS)
def wb_rows_from_begin_2 : DS := (seqS (forS (anyI (callD 17 3 (consD (varD 0) (consD (varD 1) (consD (meth0D [(isLstM, popM)] (varD 3)) nilD))))) (nameG 4) fb_rows_from_begin_1) passS)
def d_rows_from_begin : DS := (seqS (par2S 2 3 (consD (dispD (pconsD (conD (.int 0)) (conD (.bl true)) pnilD)) (consD (opND lstM (consD (conD (.int 0)) nilD)) nilD))) (seqS (whileS wc_rows_from_begin_0 wb_rows_from_begin_2) (seqS (retS (opND sortedN (consD (varD 2) nilD))) passS)))
set_option maxRecDepth 100000 in
theorem c_rows_from_begin : cSs (cS (cE deepE) (cT deepE) deepE ⟨n_rows_from_begin, (defScope s_rows_from_begin).names, gl, fs, bn⟩) (defBody s_rows_from_begin) = some d_rows_from_begin := by kernel_rfl
theorem sc_rows_from_begin : FnScope n_rows_from_begin ["book", "function"] (defScope s_rows_from_begin) := ⟨by kernel_rfl, by kernel_rfl, by kernel_rfl, by decide +kernel, by kernel_rfl, by decide +kernel, by decide +kernel⟩
/-! calls_of -/
abbrev s_calls_of : Stmt := topS 47
def n_calls_of : List Str := ["book", "function", "rows", "at"]
def cc_calls_of_0 : DB := (boolD (op2D eqM (op2D ixM (op2D ixM (varD 2) (varD 3)) (conD (.int 0))) (conD (.str [99, 97, 108, 108]))))
def ce_calls_of_1 : DE := (op2D ixM (op2D ixM (varD 2) (varD 3)) (conD (.int 2)))
def d_calls_of : DS := (seqS (setS 2 (callD 16 2 (consD (varD 0) (consD (varD 1) nilD)))) (seqS (retS (op1D srtSetM (lcD (anyI (callD 18 2 (consD (varD 0) (consD (varD 1) nilD)))) [3] (nameG 3) cc_calls_of_0 ce_calls_of_1))) passS))
set_option maxRecDepth 100000 in
theorem c_calls_of : cSs (cS (cE deepE) (cT deepE) deepE ⟨n_calls_of, (defScope s_calls_of).names, gl, fs, bn⟩) (defBody s_calls_of) = some d_calls_of := by kernel_rfl
theorem sc_calls_of : FnScope n_calls_of ["book", "function"] (defScope s_calls_of) := ⟨by kernel_rfl, by kernel_rfl, by kernel_rfl, by decide +kernel, by kernel_rfl, by decide +kernel, by decide +kernel⟩
/-! functions_reached -/
abbrev s_functions_reached : Stmt := topS 48
def n_functions_reached : List Str := ["book", "found", "left", "late"]
def wc_functions_reached_0 : DB := (boolD (op2D neM (varD 2) (opND lstM nilD)))
def fb_functions_reached_1 : DS := (seqS (ifS (boolD (op2D notinM (varD 3) (varD 1))) (seqS (asgS (conD (.bl true)) (subG (varD 1) (varD 3))) (seqS (exprS (methAD [(isLstM, appendM)] (varD 2) (consD (varD 3) nilD))) passS)) passS) passS)
def wb_functions_reached_2 : DS := (seqS (forS (anyI (callD 19 2 (consD (varD 0) (consD (meth0D [(isLstM, popM)] (varD 2)) nilD)))) (nameG 3) fb_functions_reached_1) passS)
def d_functions_reached : DS := (seqS (par2S 1 2 (consD (dispD (pconsD (conD (.int 0)) (conD (.bl true)) pnilD)) (consD (opND lstM (consD (conD (.int 0)) nilD)) nilD))) (seqS (whileS wc_functions_reached_0 wb_functions_reached_2) (seqS (retS (opND sortedN (consD (varD 1) nilD))) passS)))
set_option maxRecDepth 100000 in
theorem c_functions_reached : cSs (cS (cE deepE) (cT deepE) deepE ⟨n_functions_reached, (defScope s_functions_reached).names, gl, fs, bn⟩) (defBody s_functions_reached) = some d_functions_reached := by kernel_rfl
theorem sc_functions_reached : FnScope n_functions_reached ["book"] (defScope s_functions_reached) := ⟨by kernel_rfl, by kernel_rfl, by kernel_rfl, by decide +kernel, by kernel_rfl, by decide +kernel, by decide +kernel⟩
/-! frames_of_calls -/
abbrev s_frames_of_calls : Stmt := topS 49
def n_frames_of_calls : List Str := ["book", "found", "ahead", "late", "function"]
def wc_frames_of_calls_0 : DB := (boolD (op2D neM (varD 2) (opND lstM nilD)))
def fb_frames_of_calls_1 : DS := (seqS (exprS (methAD [(isLstM, extendM)] (varD 3) (consD (callD 19 2 (consD (varD 0) (consD (varD 4) nilD))) nilD))) passS)
def wb_frames_of_calls_2 : DS := (seqS (setS 1 (op2D addM (varD 1) (conD (.int 1)))) (seqS (ifS (boolD (op2D gtM (varD 1) (opND lenN (consD (op2D ixM (varD 0) (conD (.int 4))) nilD)))) (seqS (retS (conD .non)) passS) passS) (seqS (setS 3 (opND lstM nilD)) (seqS (forS (anyI (varD 2)) (nameG 4) fb_frames_of_calls_1) (seqS (setS 2 (op1D srtSetM (varD 3))) passS)))))
def d_frames_of_calls : DS := (seqS (par2S 1 2 (consD (conD (.int 0)) (consD (opND lstM (consD (conD (.int 0)) nilD)) nilD))) (seqS (whileS wc_frames_of_calls_0 wb_frames_of_calls_2) (seqS (retS (varD 1)) passS)))
set_option maxRecDepth 100000 in
theorem c_frames_of_calls : cSs (cS (cE deepE) (cT deepE) deepE ⟨n_frames_of_calls, (defScope s_frames_of_calls).names, gl, fs, bn⟩) (defBody s_frames_of_calls) = some d_frames_of_calls := by kernel_rfl
theorem sc_frames_of_calls : FnScope n_frames_of_calls ["book"] (defScope s_frames_of_calls) := ⟨by kernel_rfl, by kernel_rfl, by kernel_rfl, by decide +kernel, by kernel_rfl, by decide +kernel, by decide +kernel⟩
/-! want_function_of -/
abbrev s_want_function_of : Stmt := topS 50
def n_want_function_of : List Str := ["book", "function"]
def d_want_function_of : DS := (seqS (exprS (callD 15 1 (consD (varD 0) nilD))) (seqS (ifS (notD (truD (callD 1 3 (consD (varD 1) (consD (conD (.int 0)) (consD (op2D subM (opND lenN (consD (op2D ixM (varD 0) (conD (.int 4))) nilD)) (conD (.int 1))) nilD)))))) (seqS stuckS passS) passS) passS))
set_option maxRecDepth 100000 in
theorem c_want_function_of : cSs (cS (cE deepE) (cT deepE) deepE ⟨n_want_function_of, (defScope s_want_function_of).names, gl, fs, bn⟩) (defBody s_want_function_of) = some d_want_function_of := by kernel_rfl
theorem sc_want_function_of : FnScope n_want_function_of ["book", "function"] (defScope s_want_function_of) := ⟨by kernel_rfl, by kernel_rfl, by kernel_rfl, by decide +kernel, by kernel_rfl, by decide +kernel, by decide +kernel⟩
/-! is_book -/
abbrev s_is_book : Stmt := topS 51
def n_is_book : List Str := ["value"]
def d_is_book : DS := (seqS (retS (callD 14 1 (consD (varD 0) nilD))) passS)
set_option maxRecDepth 100000 in
theorem c_is_book : cSs (cS (cE deepE) (cT deepE) deepE ⟨n_is_book, (defScope s_is_book).names, gl, fs, bn⟩) (defBody s_is_book) = some d_is_book := by kernel_rfl
theorem sc_is_book : FnScope n_is_book ["value"] (defScope s_is_book) := ⟨by kernel_rfl, by kernel_rfl, by kernel_rfl, by decide +kernel, by kernel_rfl, by decide +kernel, by decide +kernel⟩
/-! row_ways -/
abbrev s_row_ways : Stmt := topS 52
def n_row_ways : List Str := ["book", "function", "row"]
def d_row_ways : DS := (seqS (exprS (callD 22 2 (consD (varD 0) (consD (varD 1) nilD)))) (seqS (ifS (notD (truD (callD 1 3 (consD (varD 2) (consD (conD (.int 0)) (consD (op2D subM (opND lenN (consD (callD 16 2 (consD (varD 0) (consD (varD 1) nilD))) nilD)) (conD (.int 1))) nilD)))))) (seqS stuckS passS) passS) (seqS (retS (callD 17 3 (consD (varD 0) (consD (varD 1) (consD (varD 2) nilD))))) passS)))
set_option maxRecDepth 100000 in
theorem c_row_ways : cSs (cS (cE deepE) (cT deepE) deepE ⟨n_row_ways, (defScope s_row_ways).names, gl, fs, bn⟩) (defBody s_row_ways) = some d_row_ways := by kernel_rfl
theorem sc_row_ways : FnScope n_row_ways ["book", "function", "row"] (defScope s_row_ways) := ⟨by kernel_rfl, by kernel_rfl, by kernel_rfl, by decide +kernel, by kernel_rfl, by decide +kernel, by decide +kernel⟩
/-! called_by -/
abbrev s_called_by : Stmt := topS 53
def n_called_by : List Str := ["book", "function"]
def d_called_by : DS := (seqS (exprS (callD 22 2 (consD (varD 0) (consD (varD 1) nilD)))) (seqS (retS (callD 19 2 (consD (varD 0) (consD (varD 1) nilD)))) passS))
set_option maxRecDepth 100000 in
theorem c_called_by : cSs (cS (cE deepE) (cT deepE) deepE ⟨n_called_by, (defScope s_called_by).names, gl, fs, bn⟩) (defBody s_called_by) = some d_called_by := by kernel_rfl
theorem sc_called_by : FnScope n_called_by ["book", "function"] (defScope s_called_by) := ⟨by kernel_rfl, by kernel_rfl, by kernel_rfl, by decide +kernel, by kernel_rfl, by decide +kernel, by decide +kernel⟩
/-! reached_rows -/
abbrev s_reached_rows : Stmt := topS 54
def n_reached_rows : List Str := ["book", "found", "function", "row"]
def ce_reached_rows_0 : DE := (opND tupM (consD (varD 2) (consD (varD 3) nilD)))
def fb_reached_rows_1 : DS := (seqS (exprS (methAD [(isLstM, extendM)] (varD 1) (consD (lcD (anyI (callD 18 2 (consD (varD 0) (consD (varD 2) nilD)))) [3] (nameG 3) yesD ce_reached_rows_0) nilD))) passS)
def d_reached_rows : DS := (seqS (exprS (callD 15 1 (consD (varD 0) nilD))) (seqS (setS 1 (opND lstM nilD)) (seqS (forS (anyI (callD 20 1 (consD (varD 0) nilD))) (nameG 2) fb_reached_rows_1) (seqS (retS (varD 1)) passS))))
set_option maxRecDepth 100000 in
theorem c_reached_rows : cSs (cS (cE deepE) (cT deepE) deepE ⟨n_reached_rows, (defScope s_reached_rows).names, gl, fs, bn⟩) (defBody s_reached_rows) = some d_reached_rows := by kernel_rfl
theorem sc_reached_rows : FnScope n_reached_rows ["book"] (defScope s_reached_rows) := ⟨by kernel_rfl, by kernel_rfl, by kernel_rfl, by decide +kernel, by kernel_rfl, by decide +kernel, by decide +kernel⟩
/-! frames_wanted -/
abbrev s_frames_wanted : Stmt := topS 55
def n_frames_wanted : List Str := ["book"]
def d_frames_wanted : DS := (seqS (exprS (callD 15 1 (consD (varD 0) nilD))) (seqS (retS (callD 21 1 (consD (varD 0) nilD))) passS))
set_option maxRecDepth 100000 in
theorem c_frames_wanted : cSs (cS (cE deepE) (cT deepE) deepE ⟨n_frames_wanted, (defScope s_frames_wanted).names, gl, fs, bn⟩) (defBody s_frames_wanted) = some d_frames_wanted := by kernel_rfl
theorem sc_frames_wanted : FnScope n_frames_wanted ["book"] (defScope s_frames_wanted) := ⟨by kernel_rfl, by kernel_rfl, by kernel_rfl, by decide +kernel, by kernel_rfl, by decide +kernel, by decide +kernel⟩
/-! _law_pot -/
abbrev s__law_pot : Stmt := topS 57
def n__law_pot : List Str := ["script", "k", "cell"]
def d__law_pot : DS := (seqS (setS 2 (ifD (boolD (op2D ltM (varD 1) (opND lenN (consD (varD 0) nilD)))) (opND absN (consD (op2D ixM (varD 0) (varD 1)) nilD)) (op2D addM (op2D mulM (conD (.int 2677)) (varD 1)) (conD (.int 859))))) (seqS (retS (opND lstM (consD (opND max2N (consD (conD (.int 0)) (consD (op2D subM (varD 2) (op2D powM (conD (.int 10)) (conD (.int 18)))) nilD))) (consD (op2D addM (op2D modM (opND intN (consD (op2D addM (op2D addM (op2D mulM (op2D modM (opND intN (consD (varD 2) nilD)) (conD (.int 2147483549))) (conD (.int 40014))) (op2D mulM (conD (.int 6733)) (varD 1))) (conD (.int 1871))) nilD)) (conD (.int 2147483563))) (conD (.int 1))) nilD)))) passS))
set_option maxRecDepth 100000 in
theorem c__law_pot : cSs (cS (cE deepE) (cT deepE) deepE ⟨n__law_pot, (defScope s__law_pot).names, gl, fs, bn⟩) (defBody s__law_pot) = some d__law_pot := by kernel_rfl
theorem sc__law_pot : FnScope n__law_pot ["script", "k"] (defScope s__law_pot) := ⟨by kernel_rfl, by kernel_rfl, by kernel_rfl, by decide +kernel, by kernel_rfl, by decide +kernel, by decide +kernel⟩
/-! _law_draw -/
abbrev s__law_draw : Stmt := topS 58
def n__law_draw : List Str := ["pot", "many", "digit"]
def d__law_draw : DS := (seqS (ifS (boolD (op2D gtM (op2D ixM (varD 0) (conD (.int 0))) (conD (.int 0)))) (seqS (asgS (opND divmodN (consD (op2D ixM (varD 0) (conD (.int 0))) (consD (varD 1) nilD))) (tupG 2 (consG (subG (varD 0) (conD (.int 0))) (consG (nameG 2) nilG)))) (seqS (retS (varD 2)) passS)) passS) (seqS (asgS (op2D modM (opND intN (consD (op2D addM (op2D mulM (op2D ixM (varD 0) (conD (.int 1))) (conD (.int 40692))) (conD (.int 10331))) nilD)) (conD (.int 2147483587))) (subG (varD 0) (conD (.int 1)))) (seqS (retS (op2D modM (opND intN (consD (op2D fdivM (op2D modM (opND intN (consD (op2D mulM (op2D ixM (varD 0) (conD (.int 1))) (op2D ixM (varD 0) (conD (.int 1)))) nilD)) (conD (.int 2147483549))) (conD (.int 43))) nilD)) (varD 1))) passS)))
set_option maxRecDepth 100000 in
theorem c__law_draw : cSs (cS (cE deepE) (cT deepE) deepE ⟨n__law_draw, (defScope s__law_draw).names, gl, fs, bn⟩) (defBody s__law_draw) = some d__law_draw := by kernel_rfl
theorem sc__law_draw : FnScope n__law_draw ["pot", "many"] (defScope s__law_draw) := ⟨by kernel_rfl, by kernel_rfl, by kernel_rfl, by decide +kernel, by kernel_rfl, by decide +kernel, by decide +kernel⟩
/-! _law_pick -/
abbrev s__law_pick : Stmt := topS 59
def n__law_pick : List Str := ["pot", "some"]
def d__law_pick : DS := (seqS (retS (op2D ixM (varD 1) (callD 29 2 (consD (varD 0) (consD (opND lenN (consD (varD 1) nilD)) nilD))))) passS)
set_option maxRecDepth 100000 in
theorem c__law_pick : cSs (cS (cE deepE) (cT deepE) deepE ⟨n__law_pick, (defScope s__law_pick).names, gl, fs, bn⟩) (defBody s__law_pick) = some d__law_pick := by kernel_rfl
theorem sc__law_pick : FnScope n__law_pick ["pot", "some"] (defScope s__law_pick) := ⟨by kernel_rfl, by kernel_rfl, by kernel_rfl, by decide +kernel, by kernel_rfl, by decide +kernel, by decide +kernel⟩
/-! _law_row -/
abbrev s__law_row : Stmt := topS 60
def n__law_row : List Str := ["pot", "functions", "many", "way"]
def d__law_row : DS := (seqS (setS 3 (callD 29 2 (consD (varD 0) (consD (conD (.int 10)) nilD)))) (seqS (ifS (boolD (op2D ltM (varD 3) (conD (.int 2)))) (seqS (retS (opND tupM (consD (conD (.str [116, 101, 115, 116])) (consD (callD 30 2 (consD (varD 0) (consD (opND lstM (consD (opND tupM (consD (conD (.str [110, 97, 109, 101])) (consD (conD (.str [120])) nilD))) (consD (opND tupM (consD (conD (.str [119, 111, 114, 100])) (consD (conD (.int 0)) nilD))) (consD (opND tupM (consD (conD (.str [115, 97, 109, 101])) (consD (opND tupM (consD (conD (.str [110, 105, 108])) nilD)) (consD (opND tupM (consD (conD (.str [110, 105, 108])) nilD)) nilD)))) nilD)))) nilD))) (consD (callD 29 2 (consD (varD 0) (consD (varD 2) nilD))) nilD))))) passS) passS) (seqS (ifS (boolD (op2D ltM (varD 3) (conD (.int 4)))) (seqS (retS (opND tupM (consD (conD (.str [99, 97, 108, 108])) (consD (conD (.str [120])) (consD (callD 29 2 (consD (varD 0) (consD (varD 1) nilD))) (consD (opND tupM nilD) nilD)))))) passS) passS) (seqS (ifS (boolD (op2D eqM (varD 3) (conD (.int 4)))) (seqS (retS (opND tupM (consD (conD (.str [103, 111])) (consD (callD 29 2 (consD (varD 0) (consD (varD 2) nilD))) nilD)))) passS) passS) (seqS (ifS (boolD (op2D eqM (varD 3) (conD (.int 5)))) (seqS (retS (opND tupM (consD (conD (.str [114, 101, 116, 117, 114, 110])) (consD (opND tupM (consD (conD (.str [110, 97, 109, 101])) (consD (conD (.str [120])) nilD))) nilD)))) passS) passS) (seqS (retS (callD 30 2 (consD (varD 0) (consD (opND lstM (consD (opND tupM (consD (conD (.str [97, 115, 107])) (consD (conD (.str [120])) nilD))) (consD (opND tupM (consD (conD (.str [111, 117, 116])) (consD (opND tupM (consD (conD (.str [110, 97, 109, 101])) (consD (conD (.str [120])) nilD))) nilD))) (consD (opND tupM (consD (conD (.str [110, 101, 119])) (consD (conD (.str [107])) nilD))) (consD (opND tupM (consD (conD (.str [112, 117, 116])) (consD (conD (.str [107])) (consD (conD (.str [110, 101, 120, 116])) (consD (opND tupM (consD (conD (.str [110, 97, 109, 101])) (consD (conD (.str [107])) nilD))) nilD))))) nilD))))) nilD)))) passS))))))
set_option maxRecDepth 100000 in
theorem c__law_row : cSs (cS (cE deepE) (cT deepE) deepE ⟨n__law_row, (defScope s__law_row).names, gl, fs, bn⟩) (defBody s__law_row) = some d__law_row := by kernel_rfl
theorem sc__law_row : FnScope n__law_row ["pot", "functions", "many"] (defScope s__law_row) := ⟨by kernel_rfl, by kernel_rfl, by kernel_rfl, by decide +kernel, by kernel_rfl, by decide +kernel, by decide +kernel⟩
/-! _law_book -/
abbrev s__law_book : Stmt := topS 61
def n__law_book : List Str := ["pot", "at", "functions", "many", "size", "rows", "turn"]
def ce__law_book_0 : DE := (callD 31 3 (consD (varD 0) (consD (varD 3) (consD (varD 4) nilD))))
def fb__law_book_1 : DS := (seqS (setS 4 (op2D addM (conD (.int 1)) (callD 29 2 (consD (varD 0) (consD (conD (.int 12)) nilD))))) (seqS (setS 5 (lcD (rng1I (consD (op2D subM (varD 4) (conD (.int 1))) nilD)) [6] (nameG 6) yesD ce__law_book_0)) (seqS (exprS (methAD [(isLstM, appendM)] (varD 5) (consD (callD 30 2 (consD (varD 0) (consD (opND lstM (consD (opND tupM (consD (conD (.str [114, 101, 116, 117, 114, 110])) (consD (opND tupM (consD (conD (.str [119, 111, 114, 100])) (consD (conD (.int 0)) nilD))) nilD))) (consD (opND tupM (consD (conD (.str [103, 111])) (consD (callD 29 2 (consD (varD 0) (consD (varD 4) nilD))) nilD))) nilD))) nilD))) nilD))) (seqS (exprS (methAD [(isLstM, appendM)] (varD 2) (consD (opND tupM (consD (conD (.str [102, 117, 110, 99, 116, 105, 111, 110])) (consD (op2D addM (conD (.str [102])) (opND strN (consD (varD 1) nilD))) (consD (conD (.int 0)) (consD (opND tupM (consD (opND tupM (consD (conD (.str [120])) (consD (conD (.str [119, 111, 114, 100])) nilD))) (consD (opND tupM (consD (conD (.str [107])) (consD (conD (.str [108, 105, 110, 107])) nilD))) nilD))) (consD (conD (.str [119, 111, 114, 100])) (consD (opND tupleN (consD (varD 5) nilD)) nilD))))))) nilD))) passS))))
def d__law_book : DS := (seqS (asgS (opND tupM (consD (opND lstM nilD) (consD (callD 30 2 (consD (varD 0) (consD (opND lstM (consD (conD (.int 1)) (consD (conD (.int 2)) (consD (conD (.int 3)) (consD (conD (.int 3)) (consD (conD (.int 4)) (consD (conD (.int 6)) nilD))))))) nilD))) nilD))) (tupG 2 (consG (nameG 2) (consG (nameG 3) nilG)))) (seqS (forS (rng1I (consD (varD 3) nilD)) (nameG 1) fb__law_book_1) (seqS (retS (opND tupM (consD (conD (.str [98, 111, 111, 107])) (consD (conD (.int 2)) (consD (op2D addM (conD (.int 1)) (callD 29 2 (consD (varD 0) (consD (conD (.int 4)) nilD)))) (consD (callD 29 2 (consD (varD 0) (consD (conD (.int 5)) nilD))) (consD (opND tupleN (consD (varD 2) nilD)) nilD))))))) passS)))
set_option maxRecDepth 100000 in
theorem c__law_book : cSs (cS (cE deepE) (cT deepE) deepE ⟨n__law_book, (defScope s__law_book).names, gl, fs, bn⟩) (defBody s__law_book) = some d__law_book := by kernel_rfl
theorem sc__law_book : FnScope n__law_book ["pot"] (defScope s__law_book) := ⟨by kernel_rfl, by kernel_rfl, by kernel_rfl, by decide +kernel, by kernel_rfl, by decide +kernel, by decide +kernel⟩
/-! _law_ways -/
abbrev s__law_ways : Stmt := topS 62
def n__law_ways : List Str := ["rows", "at", "word", "found"]
def d__law_ways : DS := (seqS (setS 2 (op2D ixM (op2D ixM (varD 0) (varD 1)) (conD (.int 0)))) (seqS (setS 3 (ifD (boolD (op2D inM (varD 2) (opND tupM (consD (conD (.str [103, 111])) (consD (conD (.str [114, 101, 116, 117, 114, 110])) nilD))))) (opND lstM nilD) (opND lstM (consD (op2D addM (varD 1) (conD (.int 1))) nilD)))) (seqS (retS (op1D srtSetM (op2D addM (varD 3) (ifD (boolD (op2D inM (varD 2) (opND tupM (consD (conD (.str [103, 111])) (consD (conD (.str [116, 101, 115, 116])) nilD))))) (opND lstM (consD (op2D ixM (op2D ixM (varD 0) (varD 1)) (op1D negM (conD (.int 1)))) nilD)) (opND lstM nilD))))) passS)))
set_option maxRecDepth 100000 in
theorem c__law_ways : cSs (cS (cE deepE) (cT deepE) deepE ⟨n__law_ways, (defScope s__law_ways).names, gl, fs, bn⟩) (defBody s__law_ways) = some d__law_ways := by kernel_rfl
theorem sc__law_ways : FnScope n__law_ways ["rows", "at"] (defScope s__law_ways) := ⟨by kernel_rfl, by kernel_rfl, by kernel_rfl, by decide +kernel, by kernel_rfl, by decide +kernel, by decide +kernel⟩
/-! _law_closed -/
abbrev s__law_closed : Stmt := topS 63
def n__law_closed : List Str := ["begin", "coming", "found", "is_more", "late", "one", "more"]
def wc__law_closed_0 : DB := (truD (varD 3))
def cc__law_closed_1 : DB := (boolD (op2D notinM (varD 6) (varD 2)))
def ce__law_closed_2 : DE := (varD 6)
def fb__law_closed_3 : DS := (seqS (exprS (methAD [(isLstM, extendM)] (varD 4) (consD (lcD (anyI (op2D ixM (varD 1) (varD 5))) [6] (nameG 6) cc__law_closed_1 ce__law_closed_2) nilD))) passS)
def wb__law_closed_4 : DS := (seqS (setS 4 (opND lstM nilD)) (seqS (forS (anyI (varD 2)) (nameG 5) fb__law_closed_3) (seqS (asgS (opND tupM (consD (op1D srtSetM (op2D addM (varD 2) (varD 4))) (consD (op2D neM (varD 4) (opND lstM nilD)) nilD))) (tupG 2 (consG (nameG 2) (consG (nameG 3) nilG)))) passS)))
def d__law_closed : DS := (seqS (asgS (opND tupM (consD (opND lstM (consD (varD 0) nilD)) (consD (conD (.bl true)) nilD))) (tupG 2 (consG (nameG 2) (consG (nameG 3) nilG)))) (seqS (whileS wc__law_closed_0 wb__law_closed_4) (seqS (retS (varD 2)) passS)))
set_option maxRecDepth 100000 in
theorem c__law_closed : cSs (cS (cE deepE) (cT deepE) deepE ⟨n__law_closed, (defScope s__law_closed).names, gl, fs, bn⟩) (defBody s__law_closed) = some d__law_closed := by kernel_rfl
theorem sc__law_closed : FnScope n__law_closed ["begin", "coming"] (defScope s__law_closed) := ⟨by kernel_rfl, by kernel_rfl, by kernel_rfl, by decide +kernel, by kernel_rfl, by decide +kernel, by decide +kernel⟩
/-! _law_frames -/
abbrev s__law_frames : Stmt := topS 64
def n__law_frames : List Str := ["calls", "ends", "many", "late", "one"]
def wc__law_frames_0 : DB := (andD (boolD (op2D neM (varD 1) (opND lstM nilD))) (boolD (op2D leM (varD 2) (opND lenN (consD (varD 0) nilD)))))
def fb__law_frames_1 : DS := (seqS (exprS (methAD [(isLstM, extendM)] (varD 3) (consD (op2D ixM (varD 0) (varD 4)) nilD))) passS)
def wb__law_frames_2 : DS := (seqS (setS 3 (opND lstM nilD)) (seqS (forS (anyI (varD 1)) (nameG 4) fb__law_frames_1) (seqS (par2S 1 2 (consD (op1D srtSetM (varD 3)) (consD (op2D addM (varD 2) (conD (.int 1))) nilD))) passS)))
def d__law_frames : DS := (seqS (par2S 1 2 (consD (opND lstM (consD (conD (.int 0)) nilD)) (consD (conD (.int 0)) nilD))) (seqS (whileS wc__law_frames_0 wb__law_frames_2) (seqS (retS (ifD (boolD (op2D eqM (varD 1) (opND lstM nilD))) (varD 2) (conD .non))) passS)))
set_option maxRecDepth 100000 in
theorem c__law_frames : cSs (cS (cE deepE) (cT deepE) deepE ⟨n__law_frames, (defScope s__law_frames).names, gl, fs, bn⟩) (defBody s__law_frames) = some d__law_frames := by kernel_rfl
theorem sc__law_frames : FnScope n__law_frames ["calls"] (defScope s__law_frames) := ⟨by kernel_rfl, by kernel_rfl, by kernel_rfl, by decide +kernel, by kernel_rfl, by decide +kernel, by decide +kernel⟩
/-! _law_right -/
abbrev s__law_right : Stmt := topS 65
def n__law_right : List Str := ["pot", "book", "function", "told", "shown", "inner", "calls", "rows", "ways", "due", "frames", "at", "some"]
def ce__law_right_0 : DE := (opND tupM (consD (varD 2) (consD (varD 11) nilD)))
def fb__law_right_1 : DS := (seqS (exprS (methAD [(isLstM, extendM)] (varD 9) (consD (lcD (anyI (op2D ixM (varD 5) (varD 2))) [11] (nameG 11) yesD ce__law_right_0) nilD))) passS)
def cc__law_right_2 : DB := (boolD (op2D eqM (op2D ixM (op2D ixM (varD 7) (varD 11)) (conD (.int 0))) (conD (.str [99, 97, 108, 108]))))
def ce__law_right_3 : DE := (op2D ixM (op2D ixM (varD 7) (varD 11)) (conD (.int 2)))
def fb__law_right_4 : DS := (seqS (setS 12 (callD 24 3 (consD (varD 1) (consD (varD 2) (consD (varD 11) nilD))))) (seqS (ifS (boolD (op2D neM (opND reprN (consD (opND lstM (consD (varD 12) (consD (callKD 24 3 0 ["book", "function", "row"] ["row", "function", "book"] nilD (consD (varD 11) (consD (varD 2) (consD (varD 1) nilD)))) nilD))) nilD)) (opND reprN (consD (opND lstM (consD (varD 9) (consD (varD 9) nilD))) nilD)))) (seqS (retS (conD (.bl false))) passS) passS) (seqS (exprS (methAD [(isLstM, appendM)] (varD 12) (consD (conD .non) nilD))) passS)))
def ce__law_right_5 : DE := (callD 33 2 (consD (varD 7) (consD (varD 11) nilD)))
def fb__law_right_6 : DS := (seqS (setS 7 (op2D ixM (varD 3) (conD (.int 5)))) (seqS (setS 8 (lcD (rng1I (consD (opND lenN (consD (varD 7) nilD)) nilD)) [11] (nameG 11) yesD ce__law_right_5)) (seqS (forS (enumI (consD (varD 8) nilD)) (tupG 2 (consG (nameG 11) (consG (nameG 9) nilG))) fb__law_right_4) (seqS (exprS (methAD [(isLstM, appendM)] (varD 5) (consD (callD 34 2 (consD (conD (.int 0)) (consD (varD 8) nilD))) nilD))) (seqS (exprS (methAD [(isLstM, appendM)] (varD 6) (consD (op1D srtSetM (lcD (anyI (op2D ixM (varD 5) (op1D negM (conD (.int 1))))) [11] (nameG 11) cc__law_right_2 ce__law_right_3)) nilD))) (seqS (ifS (boolD (op2D neM (opND reprN (consD (opND lstM (consD (callD 25 2 (consD (varD 1) (consD (varD 2) nilD))) (consD (callKD 25 2 0 ["book", "function"] ["function", "book"] nilD (consD (varD 2) (consD (varD 1) nilD))) nilD))) nilD)) (opND reprN (consD (opND lstM (consD (op2D ixM (varD 6) (op1D negM (conD (.int 1)))) (consD (op2D ixM (varD 6) (op1D negM (conD (.int 1)))) nilD))) nilD)))) (seqS (retS (conD (.bl false))) passS) passS) passS))))))
def d__law_right : DS := (seqS (setS 1 (callD 32 1 (consD (varD 0) nilD))) (seqS (par3S 4 5 6 (consD (opND reprN (consD (varD 1) nilD)) (consD (opND lstM nilD) (consD (opND lstM nilD) nilD)))) (seqS (ifS (boolD (op2D isnotM (callD 23 1 (consD (varD 1) nilD)) (conD (.bl true)))) (seqS (retS (conD (.bl false))) passS) passS) (seqS (forS (enumI (consD (op2D ixM (varD 1) (conD (.int 4))) nilD)) (tupG 2 (consG (nameG 2) (consG (nameG 3) nilG))) fb__law_right_6) (seqS (par2S 9 10 (consD (opND lstM nilD) (consD (callD 35 1 (consD (varD 6) nilD)) nilD))) (seqS (forS (anyI (callD 34 2 (consD (conD (.int 0)) (consD (varD 6) nilD)))) (nameG 2) fb__law_right_1) (seqS (setS 3 (callD 26 1 (consD (varD 1) nilD))) (seqS (ifS (boolD (op2D neM (opND reprN (consD (opND lstM (consD (varD 3) (consD (callKD 26 1 0 ["book"] ["book"] nilD (consD (varD 1) nilD)) (consD (callD 27 1 (consD (varD 1) nilD)) (consD (callKD 27 1 0 ["book"] ["book"] nilD (consD (varD 1) nilD)) nilD))))) nilD)) (opND reprN (consD (opND lstM (consD (varD 9) (consD (varD 9) (consD (varD 10) (consD (varD 10) nilD))))) nilD)))) (seqS (retS (conD (.bl false))) passS) passS) (seqS (exprS (methAD [(isLstM, appendM)] (varD 3) (consD (conD .non) nilD))) (seqS (retS (andV (op2D eqM (opND reprN (consD (callD 26 1 (consD (varD 1) nilD)) nilD)) (opND reprN (consD (varD 9) nilD))) (op2D eqM (opND reprN (consD (varD 1) nilD)) (varD 4)))) passS))))))))))
set_option maxRecDepth 100000 in
theorem c__law_right : cSs (cS (cE deepE) (cT deepE) deepE ⟨n__law_right, (defScope s__law_right).names, gl, fs, bn⟩) (defBody s__law_right) = some d__law_right := by kernel_rfl
theorem sc__law_right : FnScope n__law_right ["pot"] (defScope s__law_right) := ⟨by kernel_rfl, by kernel_rfl, by kernel_rfl, by decide +kernel, by kernel_rfl, by decide +kernel, by decide +kernel⟩
/-! law -/
abbrev s_law : Stmt := topS 66
def n_law : List Str := ["script", "k", "pot", "turn"]
def ce_law_0 : DE := (callD 36 1 (consD (varD 2) nilD))
def fb_law_1 : DS := (seqS (setS 2 (callD 28 2 (consD (varD 0) (consD (varD 1) nilD)))) (seqS (ifS (notD (truD (opND allN (consD (lcD (rng1I (consD (conD (.int 4)) nilD)) [3] (nameG 3) yesD ce_law_0) nilD)))) (seqS (retS (conD (.bl false))) passS) passS) passS))
def d_law : DS := (seqS (forS (rng1I (consD (opND max2N (consD (conD (.int 1)) (consD (opND min2N (consD (conD (.int 2)) (consD (opND lenN (consD (varD 0) nilD)) nilD))) nilD))) nilD)) (nameG 1) fb_law_1) (seqS (retS (conD (.bl true))) passS))
set_option maxRecDepth 100000 in
theorem c_law : cSs (cS (cE deepE) (cT deepE) deepE ⟨n_law, (defScope s_law).names, gl, fs, bn⟩) (defBody s_law) = some d_law := by kernel_rfl
theorem sc_law : FnScope n_law ["script"] (defScope s_law) := ⟨by kernel_rfl, by kernel_rfl, by kernel_rfl, by decide +kernel, by kernel_rfl, by decide +kernel, by decide +kernel⟩
def tab : Tab := (d_is_integer, 1, 1) :: (d_is_within, 3, 3) :: (d_is_tuple, 2, 2) :: (d_is_title, 1, 2) :: (d_is_kind, 1, 1) :: (d_are_names_told, 1, 2) :: (d_is_head_told, 1, 1) :: (d_term_kind, 4, 7) :: (d_is_worded_row, 3, 3) :: (d_is_named, 3, 3) :: (d_is_call_row, 3, 12) :: (d_is_link_row, 3, 3) :: (d_is_row_in, 3, 12) :: (d_is_book_head, 1, 2) :: (d_is_book_any, 1, 4) :: (d_want_book, 1, 1) :: (d_rows_of_function, 2, 2) :: (d_ways_of_row, 3, 4) :: (d_rows_from_begin, 2, 5) :: (d_calls_of, 2, 4) :: (d_functions_reached, 1, 4) :: (d_frames_of_calls, 1, 5) :: (d_want_function_of, 2, 2) :: (d_is_book, 1, 1) :: (d_row_ways, 3, 3) :: (d_called_by, 2, 2) :: (d_reached_rows, 1, 4) :: (d_frames_wanted, 1, 1) :: (d__law_pot, 2, 3) :: (d__law_draw, 2, 3) :: (d__law_pick, 2, 2) :: (d__law_row, 3, 4) :: (d__law_book, 1, 7) :: (d__law_ways, 2, 4) :: (d__law_closed, 2, 7) :: (d__law_frames, 1, 5) :: (d__law_right, 1, 13) :: (d_law, 1, 4) :: []
/-! the defs by number -/
abbrev rp (F k : Nat) : Nat → List MV → MH → Rs MV := runP tab F k
abbrev i_is_integer : Nat := 0
theorem r_is_integer {F k : Nat} {as : List MV} {mh : MH} {Q : MV → MH → Prop} (h : as.length = 1) (q : Os (d_is_integer ⟨rp F k, F⟩ (as.map some ++ List.replicate 0 none) mh) (fun _ h => Q .non h) Q) : Ok (rp F (k + 1) i_is_integer as mh) Q := Ok_body (np := 1) (nl := 1) h q
abbrev i_is_within : Nat := 1
theorem r_is_within {F k : Nat} {as : List MV} {mh : MH} {Q : MV → MH → Prop} (h : as.length = 3) (q : Os (d_is_within ⟨rp F k, F⟩ (as.map some ++ List.replicate 0 none) mh) (fun _ h => Q .non h) Q) : Ok (rp F (k + 1) i_is_within as mh) Q := Ok_body (np := 3) (nl := 3) h q
abbrev i_is_tuple : Nat := 2
theorem r_is_tuple {F k : Nat} {as : List MV} {mh : MH} {Q : MV → MH → Prop} (h : as.length = 2) (q : Os (d_is_tuple ⟨rp F k, F⟩ (as.map some ++ List.replicate 0 none) mh) (fun _ h => Q .non h) Q) : Ok (rp F (k + 1) i_is_tuple as mh) Q := Ok_body (np := 2) (nl := 2) h q
abbrev i_is_title : Nat := 3
theorem r_is_title {F k : Nat} {as : List MV} {mh : MH} {Q : MV → MH → Prop} (h : as.length = 1) (q : Os (d_is_title ⟨rp F k, F⟩ (as.map some ++ List.replicate 1 none) mh) (fun _ h => Q .non h) Q) : Ok (rp F (k + 1) i_is_title as mh) Q := Ok_body (np := 1) (nl := 2) h q
abbrev i_is_kind : Nat := 4
theorem r_is_kind {F k : Nat} {as : List MV} {mh : MH} {Q : MV → MH → Prop} (h : as.length = 1) (q : Os (d_is_kind ⟨rp F k, F⟩ (as.map some ++ List.replicate 0 none) mh) (fun _ h => Q .non h) Q) : Ok (rp F (k + 1) i_is_kind as mh) Q := Ok_body (np := 1) (nl := 1) h q
abbrev i_are_names_told : Nat := 5
theorem r_are_names_told {F k : Nat} {as : List MV} {mh : MH} {Q : MV → MH → Prop} (h : as.length = 1) (q : Os (d_are_names_told ⟨rp F k, F⟩ (as.map some ++ List.replicate 1 none) mh) (fun _ h => Q .non h) Q) : Ok (rp F (k + 1) i_are_names_told as mh) Q := Ok_body (np := 1) (nl := 2) h q
abbrev i_is_head_told : Nat := 6
theorem r_is_head_told {F k : Nat} {as : List MV} {mh : MH} {Q : MV → MH → Prop} (h : as.length = 1) (q : Os (d_is_head_told ⟨rp F k, F⟩ (as.map some ++ List.replicate 0 none) mh) (fun _ h => Q .non h) Q) : Ok (rp F (k + 1) i_is_head_told as mh) Q := Ok_body (np := 1) (nl := 1) h q
abbrev i_term_kind : Nat := 7
theorem r_term_kind {F k : Nat} {as : List MV} {mh : MH} {Q : MV → MH → Prop} (h : as.length = 4) (q : Os (d_term_kind ⟨rp F k, F⟩ (as.map some ++ List.replicate 3 none) mh) (fun _ h => Q .non h) Q) : Ok (rp F (k + 1) i_term_kind as mh) Q := Ok_body (np := 4) (nl := 7) h q
abbrev i_is_worded_row : Nat := 8
theorem r_is_worded_row {F k : Nat} {as : List MV} {mh : MH} {Q : MV → MH → Prop} (h : as.length = 3) (q : Os (d_is_worded_row ⟨rp F k, F⟩ (as.map some ++ List.replicate 0 none) mh) (fun _ h => Q .non h) Q) : Ok (rp F (k + 1) i_is_worded_row as mh) Q := Ok_body (np := 3) (nl := 3) h q
abbrev i_is_named : Nat := 9
theorem r_is_named {F k : Nat} {as : List MV} {mh : MH} {Q : MV → MH → Prop} (h : as.length = 3) (q : Os (d_is_named ⟨rp F k, F⟩ (as.map some ++ List.replicate 0 none) mh) (fun _ h => Q .non h) Q) : Ok (rp F (k + 1) i_is_named as mh) Q := Ok_body (np := 3) (nl := 3) h q
abbrev i_is_call_row : Nat := 10
theorem r_is_call_row {F k : Nat} {as : List MV} {mh : MH} {Q : MV → MH → Prop} (h : as.length = 3) (q : Os (d_is_call_row ⟨rp F k, F⟩ (as.map some ++ List.replicate 9 none) mh) (fun _ h => Q .non h) Q) : Ok (rp F (k + 1) i_is_call_row as mh) Q := Ok_body (np := 3) (nl := 12) h q
abbrev i_is_link_row : Nat := 11
theorem r_is_link_row {F k : Nat} {as : List MV} {mh : MH} {Q : MV → MH → Prop} (h : as.length = 3) (q : Os (d_is_link_row ⟨rp F k, F⟩ (as.map some ++ List.replicate 0 none) mh) (fun _ h => Q .non h) Q) : Ok (rp F (k + 1) i_is_link_row as mh) Q := Ok_body (np := 3) (nl := 3) h q
abbrev i_is_row_in : Nat := 12
theorem r_is_row_in {F k : Nat} {as : List MV} {mh : MH} {Q : MV → MH → Prop} (h : as.length = 3) (q : Os (d_is_row_in ⟨rp F k, F⟩ (as.map some ++ List.replicate 9 none) mh) (fun _ h => Q .non h) Q) : Ok (rp F (k + 1) i_is_row_in as mh) Q := Ok_body (np := 3) (nl := 12) h q
abbrev i_is_book_head : Nat := 13
theorem r_is_book_head {F k : Nat} {as : List MV} {mh : MH} {Q : MV → MH → Prop} (h : as.length = 1) (q : Os (d_is_book_head ⟨rp F k, F⟩ (as.map some ++ List.replicate 1 none) mh) (fun _ h => Q .non h) Q) : Ok (rp F (k + 1) i_is_book_head as mh) Q := Ok_body (np := 1) (nl := 2) h q
abbrev i_is_book_any : Nat := 14
theorem r_is_book_any {F k : Nat} {as : List MV} {mh : MH} {Q : MV → MH → Prop} (h : as.length = 1) (q : Os (d_is_book_any ⟨rp F k, F⟩ (as.map some ++ List.replicate 3 none) mh) (fun _ h => Q .non h) Q) : Ok (rp F (k + 1) i_is_book_any as mh) Q := Ok_body (np := 1) (nl := 4) h q
abbrev i_want_book : Nat := 15
theorem r_want_book {F k : Nat} {as : List MV} {mh : MH} {Q : MV → MH → Prop} (h : as.length = 1) (q : Os (d_want_book ⟨rp F k, F⟩ (as.map some ++ List.replicate 0 none) mh) (fun _ h => Q .non h) Q) : Ok (rp F (k + 1) i_want_book as mh) Q := Ok_body (np := 1) (nl := 1) h q
abbrev i_rows_of_function : Nat := 16
theorem r_rows_of_function {F k : Nat} {as : List MV} {mh : MH} {Q : MV → MH → Prop} (h : as.length = 2) (q : Os (d_rows_of_function ⟨rp F k, F⟩ (as.map some ++ List.replicate 0 none) mh) (fun _ h => Q .non h) Q) : Ok (rp F (k + 1) i_rows_of_function as mh) Q := Ok_body (np := 2) (nl := 2) h q
abbrev i_ways_of_row : Nat := 17
theorem r_ways_of_row {F k : Nat} {as : List MV} {mh : MH} {Q : MV → MH → Prop} (h : as.length = 3) (q : Os (d_ways_of_row ⟨rp F k, F⟩ (as.map some ++ List.replicate 1 none) mh) (fun _ h => Q .non h) Q) : Ok (rp F (k + 1) i_ways_of_row as mh) Q := Ok_body (np := 3) (nl := 4) h q
abbrev i_rows_from_begin : Nat := 18
theorem r_rows_from_begin {F k : Nat} {as : List MV} {mh : MH} {Q : MV → MH → Prop} (h : as.length = 2) (q : Os (d_rows_from_begin ⟨rp F k, F⟩ (as.map some ++ List.replicate 3 none) mh) (fun _ h => Q .non h) Q) : Ok (rp F (k + 1) i_rows_from_begin as mh) Q := Ok_body (np := 2) (nl := 5) h q
abbrev i_calls_of : Nat := 19
theorem r_calls_of {F k : Nat} {as : List MV} {mh : MH} {Q : MV → MH → Prop} (h : as.length = 2) (q : Os (d_calls_of ⟨rp F k, F⟩ (as.map some ++ List.replicate 2 none) mh) (fun _ h => Q .non h) Q) : Ok (rp F (k + 1) i_calls_of as mh) Q := Ok_body (np := 2) (nl := 4) h q
abbrev i_functions_reached : Nat := 20
theorem r_functions_reached {F k : Nat} {as : List MV} {mh : MH} {Q : MV → MH → Prop} (h : as.length = 1) (q : Os (d_functions_reached ⟨rp F k, F⟩ (as.map some ++ List.replicate 3 none) mh) (fun _ h => Q .non h) Q) : Ok (rp F (k + 1) i_functions_reached as mh) Q := Ok_body (np := 1) (nl := 4) h q
abbrev i_frames_of_calls : Nat := 21
theorem r_frames_of_calls {F k : Nat} {as : List MV} {mh : MH} {Q : MV → MH → Prop} (h : as.length = 1) (q : Os (d_frames_of_calls ⟨rp F k, F⟩ (as.map some ++ List.replicate 4 none) mh) (fun _ h => Q .non h) Q) : Ok (rp F (k + 1) i_frames_of_calls as mh) Q := Ok_body (np := 1) (nl := 5) h q
abbrev i_want_function_of : Nat := 22
theorem r_want_function_of {F k : Nat} {as : List MV} {mh : MH} {Q : MV → MH → Prop} (h : as.length = 2) (q : Os (d_want_function_of ⟨rp F k, F⟩ (as.map some ++ List.replicate 0 none) mh) (fun _ h => Q .non h) Q) : Ok (rp F (k + 1) i_want_function_of as mh) Q := Ok_body (np := 2) (nl := 2) h q
abbrev i_is_book : Nat := 23
theorem r_is_book {F k : Nat} {as : List MV} {mh : MH} {Q : MV → MH → Prop} (h : as.length = 1) (q : Os (d_is_book ⟨rp F k, F⟩ (as.map some ++ List.replicate 0 none) mh) (fun _ h => Q .non h) Q) : Ok (rp F (k + 1) i_is_book as mh) Q := Ok_body (np := 1) (nl := 1) h q
abbrev i_row_ways : Nat := 24
theorem r_row_ways {F k : Nat} {as : List MV} {mh : MH} {Q : MV → MH → Prop} (h : as.length = 3) (q : Os (d_row_ways ⟨rp F k, F⟩ (as.map some ++ List.replicate 0 none) mh) (fun _ h => Q .non h) Q) : Ok (rp F (k + 1) i_row_ways as mh) Q := Ok_body (np := 3) (nl := 3) h q
abbrev i_called_by : Nat := 25
theorem r_called_by {F k : Nat} {as : List MV} {mh : MH} {Q : MV → MH → Prop} (h : as.length = 2) (q : Os (d_called_by ⟨rp F k, F⟩ (as.map some ++ List.replicate 0 none) mh) (fun _ h => Q .non h) Q) : Ok (rp F (k + 1) i_called_by as mh) Q := Ok_body (np := 2) (nl := 2) h q
abbrev i_reached_rows : Nat := 26
theorem r_reached_rows {F k : Nat} {as : List MV} {mh : MH} {Q : MV → MH → Prop} (h : as.length = 1) (q : Os (d_reached_rows ⟨rp F k, F⟩ (as.map some ++ List.replicate 3 none) mh) (fun _ h => Q .non h) Q) : Ok (rp F (k + 1) i_reached_rows as mh) Q := Ok_body (np := 1) (nl := 4) h q
abbrev i_frames_wanted : Nat := 27
theorem r_frames_wanted {F k : Nat} {as : List MV} {mh : MH} {Q : MV → MH → Prop} (h : as.length = 1) (q : Os (d_frames_wanted ⟨rp F k, F⟩ (as.map some ++ List.replicate 0 none) mh) (fun _ h => Q .non h) Q) : Ok (rp F (k + 1) i_frames_wanted as mh) Q := Ok_body (np := 1) (nl := 1) h q
abbrev i__law_pot : Nat := 28
theorem r__law_pot {F k : Nat} {as : List MV} {mh : MH} {Q : MV → MH → Prop} (h : as.length = 2) (q : Os (d__law_pot ⟨rp F k, F⟩ (as.map some ++ List.replicate 1 none) mh) (fun _ h => Q .non h) Q) : Ok (rp F (k + 1) i__law_pot as mh) Q := Ok_body (np := 2) (nl := 3) h q
abbrev i__law_draw : Nat := 29
theorem r__law_draw {F k : Nat} {as : List MV} {mh : MH} {Q : MV → MH → Prop} (h : as.length = 2) (q : Os (d__law_draw ⟨rp F k, F⟩ (as.map some ++ List.replicate 1 none) mh) (fun _ h => Q .non h) Q) : Ok (rp F (k + 1) i__law_draw as mh) Q := Ok_body (np := 2) (nl := 3) h q
abbrev i__law_pick : Nat := 30
theorem r__law_pick {F k : Nat} {as : List MV} {mh : MH} {Q : MV → MH → Prop} (h : as.length = 2) (q : Os (d__law_pick ⟨rp F k, F⟩ (as.map some ++ List.replicate 0 none) mh) (fun _ h => Q .non h) Q) : Ok (rp F (k + 1) i__law_pick as mh) Q := Ok_body (np := 2) (nl := 2) h q
abbrev i__law_row : Nat := 31
theorem r__law_row {F k : Nat} {as : List MV} {mh : MH} {Q : MV → MH → Prop} (h : as.length = 3) (q : Os (d__law_row ⟨rp F k, F⟩ (as.map some ++ List.replicate 1 none) mh) (fun _ h => Q .non h) Q) : Ok (rp F (k + 1) i__law_row as mh) Q := Ok_body (np := 3) (nl := 4) h q
abbrev i__law_book : Nat := 32
theorem r__law_book {F k : Nat} {as : List MV} {mh : MH} {Q : MV → MH → Prop} (h : as.length = 1) (q : Os (d__law_book ⟨rp F k, F⟩ (as.map some ++ List.replicate 6 none) mh) (fun _ h => Q .non h) Q) : Ok (rp F (k + 1) i__law_book as mh) Q := Ok_body (np := 1) (nl := 7) h q
abbrev i__law_ways : Nat := 33
theorem r__law_ways {F k : Nat} {as : List MV} {mh : MH} {Q : MV → MH → Prop} (h : as.length = 2) (q : Os (d__law_ways ⟨rp F k, F⟩ (as.map some ++ List.replicate 2 none) mh) (fun _ h => Q .non h) Q) : Ok (rp F (k + 1) i__law_ways as mh) Q := Ok_body (np := 2) (nl := 4) h q
abbrev i__law_closed : Nat := 34
theorem r__law_closed {F k : Nat} {as : List MV} {mh : MH} {Q : MV → MH → Prop} (h : as.length = 2) (q : Os (d__law_closed ⟨rp F k, F⟩ (as.map some ++ List.replicate 5 none) mh) (fun _ h => Q .non h) Q) : Ok (rp F (k + 1) i__law_closed as mh) Q := Ok_body (np := 2) (nl := 7) h q
abbrev i__law_frames : Nat := 35
theorem r__law_frames {F k : Nat} {as : List MV} {mh : MH} {Q : MV → MH → Prop} (h : as.length = 1) (q : Os (d__law_frames ⟨rp F k, F⟩ (as.map some ++ List.replicate 4 none) mh) (fun _ h => Q .non h) Q) : Ok (rp F (k + 1) i__law_frames as mh) Q := Ok_body (np := 1) (nl := 5) h q
abbrev i__law_right : Nat := 36
theorem r__law_right {F k : Nat} {as : List MV} {mh : MH} {Q : MV → MH → Prop} (h : as.length = 1) (q : Os (d__law_right ⟨rp F k, F⟩ (as.map some ++ List.replicate 12 none) mh) (fun _ h => Q .non h) Q) : Ok (rp F (k + 1) i__law_right as mh) Q := Ok_body (np := 1) (nl := 13) h q
abbrev i_law : Nat := 37
theorem r_law {F k : Nat} {as : List MV} {mh : MH} {Q : MV → MH → Prop} (h : as.length = 1) (q : Os (d_law ⟨rp F k, F⟩ (as.map some ++ List.replicate 3 none) mh) (fun _ h => Q .non h) Q) : Ok (rp F (k + 1) i_law as mh) Q := Ok_body (np := 1) (nl := 4) h q
theorem kw_row_ways_0 {x0 x1 x2 : MV} : kwIn ["book", "function", "row"] ["row", "function", "book"] [x0, x1, x2] = [x2, x1, x0] := by kernel_rfl
theorem kw_called_by_0 {x0 x1 : MV} : kwIn ["book", "function"] ["function", "book"] [x0, x1] = [x1, x0] := by kernel_rfl
theorem kw_reached_rows_0 {x0 : MV} : kwIn ["book"] ["book"] [x0] = [x0] := by kernel_rfl
theorem kw_frames_wanted_0 {x0 : MV} : kwIn ["book"] ["book"] [x0] = [x0] := by kernel_rfl
end K23
end L2
end
section
set_option maxHeartbeats 0
namespace L2
namespace K23
open PySem PySem.Spec PyProof.Rows L2.Vf
def e_is_integer : He.DefD := ⟨("is_integer", none), "is_integer", "is_integer", defArgs s_is_integer, defBody s_is_integer, defScope s_is_integer, [], []⟩
def e_is_within : He.DefD := ⟨("is_within", none), "is_within", "is_within", defArgs s_is_within, defBody s_is_within, defScope s_is_within, [], []⟩
def e_is_tuple : He.DefD := ⟨("is_tuple", none), "is_tuple", "is_tuple", defArgs s_is_tuple, defBody s_is_tuple, defScope s_is_tuple, [], []⟩
def e_is_title : He.DefD := ⟨("is_title", none), "is_title", "is_title", defArgs s_is_title, defBody s_is_title, defScope s_is_title, [], []⟩
def e_is_kind : He.DefD := ⟨("is_kind", none), "is_kind", "is_kind", defArgs s_is_kind, defBody s_is_kind, defScope s_is_kind, [], []⟩
def e_are_names_told : He.DefD := ⟨("are_names_told", none), "are_names_told", "are_names_told", defArgs s_are_names_told, defBody s_are_names_told, defScope s_are_names_told, [], []⟩
def e_is_head_told : He.DefD := ⟨("is_head_told", none), "is_head_told", "is_head_told", defArgs s_is_head_told, defBody s_is_head_told, defScope s_is_head_told, [], []⟩
def e_term_kind : He.DefD := ⟨("term_kind", none), "term_kind", "term_kind", defArgs s_term_kind, defBody s_term_kind, defScope s_term_kind, [], []⟩
def e_is_worded_row : He.DefD := ⟨("is_worded_row", none), "is_worded_row", "is_worded_row", defArgs s_is_worded_row, defBody s_is_worded_row, defScope s_is_worded_row, [], []⟩
def e_is_named : He.DefD := ⟨("is_named", none), "is_named", "is_named", defArgs s_is_named, defBody s_is_named, defScope s_is_named, [], []⟩
def e_is_call_row : He.DefD := ⟨("is_call_row", none), "is_call_row", "is_call_row", defArgs s_is_call_row, defBody s_is_call_row, defScope s_is_call_row, [], []⟩
def e_is_link_row : He.DefD := ⟨("is_link_row", none), "is_link_row", "is_link_row", defArgs s_is_link_row, defBody s_is_link_row, defScope s_is_link_row, [], []⟩
def e_is_row_in : He.DefD := ⟨("is_row_in", none), "is_row_in", "is_row_in", defArgs s_is_row_in, defBody s_is_row_in, defScope s_is_row_in, [], []⟩
def e_is_book_head : He.DefD := ⟨("is_book_head", none), "is_book_head", "is_book_head", defArgs s_is_book_head, defBody s_is_book_head, defScope s_is_book_head, [], []⟩
def e_is_book_any : He.DefD := ⟨("is_book_any", none), "is_book_any", "is_book_any", defArgs s_is_book_any, defBody s_is_book_any, defScope s_is_book_any, [], []⟩
def e_want_book : He.DefD := ⟨("want_book", none), "want_book", "want_book", defArgs s_want_book, defBody s_want_book, defScope s_want_book, [], []⟩
def e_rows_of_function : He.DefD := ⟨("rows_of_function", none), "rows_of_function", "rows_of_function", defArgs s_rows_of_function, defBody s_rows_of_function, defScope s_rows_of_function, [], []⟩
def e_ways_of_row : He.DefD := ⟨("ways_of_row", none), "ways_of_row", "ways_of_row", defArgs s_ways_of_row, defBody s_ways_of_row, defScope s_ways_of_row, [], []⟩
def e_rows_from_begin : He.DefD := ⟨("rows_from_begin", none), "rows_from_begin", "rows_from_begin", defArgs s_rows_from_begin, defBody s_rows_from_begin, defScope s_rows_from_begin, [], []⟩
def e_calls_of : He.DefD := ⟨("calls_of", none), "calls_of", "calls_of", defArgs s_calls_of, defBody s_calls_of, defScope s_calls_of, [], []⟩
def e_functions_reached : He.DefD := ⟨("functions_reached", none), "functions_reached", "functions_reached", defArgs s_functions_reached, defBody s_functions_reached, defScope s_functions_reached, [], []⟩
def e_frames_of_calls : He.DefD := ⟨("frames_of_calls", none), "frames_of_calls", "frames_of_calls", defArgs s_frames_of_calls, defBody s_frames_of_calls, defScope s_frames_of_calls, [], []⟩
def e_want_function_of : He.DefD := ⟨("want_function_of", none), "want_function_of", "want_function_of", defArgs s_want_function_of, defBody s_want_function_of, defScope s_want_function_of, [], []⟩
def e_is_book : He.DefD := ⟨("is_book", none), "is_book", "is_book", defArgs s_is_book, defBody s_is_book, defScope s_is_book, [], []⟩
def e_row_ways : He.DefD := ⟨("row_ways", none), "row_ways", "row_ways", defArgs s_row_ways, defBody s_row_ways, defScope s_row_ways, [], []⟩
def e_called_by : He.DefD := ⟨("called_by", none), "called_by", "called_by", defArgs s_called_by, defBody s_called_by, defScope s_called_by, [], []⟩
def e_reached_rows : He.DefD := ⟨("reached_rows", none), "reached_rows", "reached_rows", defArgs s_reached_rows, defBody s_reached_rows, defScope s_reached_rows, [], []⟩
def e_frames_wanted : He.DefD := ⟨("frames_wanted", none), "frames_wanted", "frames_wanted", defArgs s_frames_wanted, defBody s_frames_wanted, defScope s_frames_wanted, [], []⟩
def e__law_pot : He.DefD := ⟨("_law_pot", none), "_law_pot", "_law_pot", defArgs s__law_pot, defBody s__law_pot, defScope s__law_pot, [], []⟩
def e__law_draw : He.DefD := ⟨("_law_draw", none), "_law_draw", "_law_draw", defArgs s__law_draw, defBody s__law_draw, defScope s__law_draw, [], []⟩
def e__law_pick : He.DefD := ⟨("_law_pick", none), "_law_pick", "_law_pick", defArgs s__law_pick, defBody s__law_pick, defScope s__law_pick, [], []⟩
def e__law_row : He.DefD := ⟨("_law_row", none), "_law_row", "_law_row", defArgs s__law_row, defBody s__law_row, defScope s__law_row, [], []⟩
def e__law_book : He.DefD := ⟨("_law_book", none), "_law_book", "_law_book", defArgs s__law_book, defBody s__law_book, defScope s__law_book, [], []⟩
def e__law_ways : He.DefD := ⟨("_law_ways", none), "_law_ways", "_law_ways", defArgs s__law_ways, defBody s__law_ways, defScope s__law_ways, [], []⟩
def e__law_closed : He.DefD := ⟨("_law_closed", none), "_law_closed", "_law_closed", defArgs s__law_closed, defBody s__law_closed, defScope s__law_closed, [], []⟩
def e__law_frames : He.DefD := ⟨("_law_frames", none), "_law_frames", "_law_frames", defArgs s__law_frames, defBody s__law_frames, defScope s__law_frames, [], []⟩
def e__law_right : He.DefD := ⟨("_law_right", none), "_law_right", "_law_right", defArgs s__law_right, defBody s__law_right, defScope s__law_right, [], []⟩
def e_law : He.DefD := ⟨("law", none), "law", "law", defArgs s_law, defBody s_law, defScope s_law, [], []⟩
def fn : List He.DefD := e_is_integer :: e_is_within :: e_is_tuple :: e_is_title :: e_is_kind :: e_are_names_told :: e_is_head_told :: e_term_kind :: e_is_worded_row :: e_is_named :: e_is_call_row :: e_is_link_row :: e_is_row_in :: e_is_book_head :: e_is_book_any :: e_want_book :: e_rows_of_function :: e_ways_of_row :: e_rows_from_begin :: e_calls_of :: e_functions_reached :: e_frames_of_calls :: e_want_function_of :: e_is_book :: e_row_ways :: e_called_by :: e_reached_rows :: e_frames_wanted :: e__law_pot :: e__law_draw :: e__law_pick :: e__law_row :: e__law_book :: e__law_ways :: e__law_closed :: e__law_frames :: e__law_right :: e_law :: []
def fa0 : List He.Fa := [.str "BOOK" (S [98, 111, 111, 107]), .str "FUNCTION" (S [102, 117, 110, 99, 116, 105, 111, 110]), .str "WORD" (S [119, 111, 114, 100]), .str "LINK" (S [108, 105, 110, 107]), .glo "KINDS", .str "VAL" (S [118, 97, 108]), .str "NEXT" (S [110, 101, 120, 116]), .glo "PART_KINDS", .int "LEAST_WIDTH" (2), .int "MOST_WIDTH" (8), .int "MOST_DEPTH" (4), .int "MOST_ROOM" (4), .int "MOST_FUNCTIONS" (6), .int "MOST_PARAMS" (3), .int "MOST_NAMES" (8), .int "MOST_BOOK_ROWS" (60), .int "MOST_TERM_DEEP" (4), .int "MOST_TITLE" (20), .str "SMALL" (S [97, 98, 99, 100, 101, 102, 103, 104, 105, 106, 107, 108, 109, 110, 111, 112, 113, 114, 115, 116, 117, 118, 119, 120, 121, 122]), .str "TITLE_SIGNS" (S [97, 98, 99, 100, 101, 102, 103, 104, 105, 106, 107, 108, 109, 110, 111, 112, 113, 114, 115, 116, 117, 118, 119, 120, 121, 122, 48, 49, 50, 51, 52, 53, 54, 55, 56, 57]), .glo "is_integer", .glo "is_within", .glo "is_tuple", .glo "is_title", .glo "is_kind", .glo "are_names_told", .glo "is_head_told", .glo "term_kind", .glo "is_worded_row", .glo "is_named"]
def fa1 : List He.Fa := [.glo "is_call_row", .glo "is_link_row", .glo "is_row_in", .glo "is_book_head", .glo "is_book_any", .glo "want_book", .glo "rows_of_function", .glo "ways_of_row", .glo "rows_from_begin", .glo "calls_of", .glo "functions_reached", .glo "frames_of_calls", .glo "want_function_of", .glo "is_book", .glo "row_ways", .glo "called_by", .glo "reached_rows", .glo "frames_wanted", .glo "_law_pot", .glo "_law_draw", .glo "_law_pick", .glo "_law_row", .glo "_law_book", .glo "_law_ways", .glo "_law_closed", .glo "_law_frames", .glo "_law_right", .glo "law", .free "abs", .free "all"]
def fa2 : List He.Fa := [.free "bool", .free "dict", .free "divmod", .free "enumerate", .free "int", .free "isinstance", .free "len", .free "max", .free "min", .free "range", .free "repr", .free "set", .free "sorted", .free "str", .free "tuple"]
def fa : List He.Fa := fa0 ++ fa1 ++ fa2
abbrev R : PySem.W.OpenRow := PySem.W.OpenLaw.row PySem.Challenge.rw_lastremains_k23_whole_ways_calls_and_row
def tabs : List WT := [⟨"PART_KINDS", [[118, 97, 108], [110, 101, 120, 116]], [(.str [119, 111, 114, 100]), (.str [108, 105, 110, 107])]⟩]
def ex (K : PySem.W.Frag) : Bool := tabs.all (dvB K) && glB K "KINDS" g_KINDS
abbrev hk : PySem.W.Hook := He.hookX 4 fa fn (tabsT tabs) [] ex
def ob (s : PySem.W.SharedT) : He.AlX := He.obsX 4 fa fn (tabsT tabs) [] ex (HandSHeadRun.getT s)
theorem ob_eq (s : PySem.W.SharedT) : ob s = hk.obs s.abs := He.obsX_eq (HandSHeadRun.getT_eq s)
def lo0 : List Str := ["__name__", "is_integer", "is_within", "is_tuple", "WorkError", "InvalidBook", "InvalidFunction", "InvalidRow", "BOOK", "FUNCTION", "WORD", "LINK", "KINDS", "VAL", "NEXT", "PART_KINDS", "LEAST_WIDTH", "MOST_WIDTH", "MOST_DEPTH", "MOST_ROOM", "MOST_FUNCTIONS", "MOST_PARAMS", "MOST_NAMES", "MOST_BOOK_ROWS", "MOST_TERM_DEEP", "MOST_TITLE", "SMALL", "TITLE_SIGNS", "is_title", "is_kind"]
def lo1 : List Str := ["are_names_told", "is_head_told", "term_kind", "is_worded_row", "is_named", "is_call_row", "is_link_row", "is_row_in", "is_book_head", "is_book_any", "want_book", "rows_of_function", "ways_of_row", "rows_from_begin", "calls_of", "functions_reached", "frames_of_calls", "want_function_of", "is_book", "row_ways", "called_by", "reached_rows", "frames_wanted", "_law_pot", "_law_draw", "_law_pick", "_law_row", "_law_book", "_law_ways", "_law_closed"]
def lo2 : List Str := ["_law_frames", "_law_right"]
def lo : List Str := lo0 ++ lo1 ++ lo2
theorem runB (b : Bool) (w : World) : HandSHeadRun.RunEq R (PySem.W.view R.prog [66]) hk ob 3000 lo (setF w "special-get-raises" b) := by
  cases b
  · intro os
    kernel_rfl
  · intro os
    kernel_rfl
theorem run (w : World) : HandSHeadRun.RunEq R (PySem.W.view R.prog [66]) hk ob 3000 lo w := by
  have h := runB (w.params.followText "special-get-raises") w
  rwa [setF_self] at h
abbrev tx (K : PySem.W.Frag) : Tx := txW K tabs
section
variable {K : PySem.W.Frag} {mg : Str → Option Value} {h : Heap}
theorem is_is_integer (X : K.In h) (G : h.Ns mainGlobals mg) (c : He.SaysD fa fn K) : DefIs K mg gl fs bn "is_integer" ["value"] [] (d_is_integer, 1, 1) := by
  obtain ⟨fd, F⟩ := c.def_ 0 (d := e_is_integer) rfl
  have F : FunD K "is_integer" "is_integer" (defArgs s_is_integer) (defBody s_is_integer) (defScope s_is_integer) [] [] (He.ga K "is_integer") fd := F
  refine defIs_of (N := n_is_integer) F (He.glo_ok X G (c.fact 20 (f := .glo "is_integer") rfl)) sc_is_integer (F.bindsN fun _ _ _ _ _ _ us hl => match us, hl with | [_], _ => rfl) ?_ c_is_integer
  intro q hq; cases hq
theorem is_is_within (X : K.In h) (G : h.Ns mainGlobals mg) (c : He.SaysD fa fn K) : DefIs K mg gl fs bn "is_within" ["value", "least", "most"] [] (d_is_within, 3, 3) := by
  obtain ⟨fd, F⟩ := c.def_ 1 (d := e_is_within) rfl
  have F : FunD K "is_within" "is_within" (defArgs s_is_within) (defBody s_is_within) (defScope s_is_within) [] [] (He.ga K "is_within") fd := F
  refine defIs_of (N := n_is_within) F (He.glo_ok X G (c.fact 21 (f := .glo "is_within") rfl)) sc_is_within (F.bindsN fun _ _ _ _ _ _ us hl => match us, hl with | [_, _, _], _ => rfl) ?_ c_is_within
  intro q hq; cases hq
theorem is_is_tuple (X : K.In h) (G : h.Ns mainGlobals mg) (c : He.SaysD fa fn K) : DefIs K mg gl fs bn "is_tuple" ["value", "many"] [] (d_is_tuple, 2, 2) := by
  obtain ⟨fd, F⟩ := c.def_ 2 (d := e_is_tuple) rfl
  have F : FunD K "is_tuple" "is_tuple" (defArgs s_is_tuple) (defBody s_is_tuple) (defScope s_is_tuple) [] [] (He.ga K "is_tuple") fd := F
  refine defIs_of (N := n_is_tuple) F (He.glo_ok X G (c.fact 22 (f := .glo "is_tuple") rfl)) sc_is_tuple (F.bindsN fun _ _ _ _ _ _ us hl => match us, hl with | [_, _], _ => rfl) ?_ c_is_tuple
  intro q hq; cases hq
theorem is_is_title (X : K.In h) (G : h.Ns mainGlobals mg) (c : He.SaysD fa fn K) : DefIs K mg gl fs bn "is_title" ["value"] [] (d_is_title, 1, 2) := by
  obtain ⟨fd, F⟩ := c.def_ 3 (d := e_is_title) rfl
  have F : FunD K "is_title" "is_title" (defArgs s_is_title) (defBody s_is_title) (defScope s_is_title) [] [] (He.ga K "is_title") fd := F
  refine defIs_of (N := n_is_title) F (He.glo_ok X G (c.fact 23 (f := .glo "is_title") rfl)) sc_is_title (F.bindsN fun _ _ _ _ _ _ us hl => match us, hl with | [_], _ => rfl) ?_ c_is_title
  intro q hq; cases hq
theorem is_is_kind (X : K.In h) (G : h.Ns mainGlobals mg) (c : He.SaysD fa fn K) : DefIs K mg gl fs bn "is_kind" ["value"] [] (d_is_kind, 1, 1) := by
  obtain ⟨fd, F⟩ := c.def_ 4 (d := e_is_kind) rfl
  have F : FunD K "is_kind" "is_kind" (defArgs s_is_kind) (defBody s_is_kind) (defScope s_is_kind) [] [] (He.ga K "is_kind") fd := F
  refine defIs_of (N := n_is_kind) F (He.glo_ok X G (c.fact 24 (f := .glo "is_kind") rfl)) sc_is_kind (F.bindsN fun _ _ _ _ _ _ us hl => match us, hl with | [_], _ => rfl) ?_ c_is_kind
  intro q hq; cases hq
theorem is_are_names_told (X : K.In h) (G : h.Ns mainGlobals mg) (c : He.SaysD fa fn K) : DefIs K mg gl fs bn "are_names_told" ["value"] [] (d_are_names_told, 1, 2) := by
  obtain ⟨fd, F⟩ := c.def_ 5 (d := e_are_names_told) rfl
  have F : FunD K "are_names_told" "are_names_told" (defArgs s_are_names_told) (defBody s_are_names_told) (defScope s_are_names_told) [] [] (He.ga K "are_names_told") fd := F
  refine defIs_of (N := n_are_names_told) F (He.glo_ok X G (c.fact 25 (f := .glo "are_names_told") rfl)) sc_are_names_told (F.bindsN fun _ _ _ _ _ _ us hl => match us, hl with | [_], _ => rfl) ?_ c_are_names_told
  intro q hq; cases hq
theorem is_is_head_told (X : K.In h) (G : h.Ns mainGlobals mg) (c : He.SaysD fa fn K) : DefIs K mg gl fs bn "is_head_told" ["value"] [] (d_is_head_told, 1, 1) := by
  obtain ⟨fd, F⟩ := c.def_ 6 (d := e_is_head_told) rfl
  have F : FunD K "is_head_told" "is_head_told" (defArgs s_is_head_told) (defBody s_is_head_told) (defScope s_is_head_told) [] [] (He.ga K "is_head_told") fd := F
  refine defIs_of (N := n_is_head_told) F (He.glo_ok X G (c.fact 26 (f := .glo "is_head_told") rfl)) sc_is_head_told (F.bindsN fun _ _ _ _ _ _ us hl => match us, hl with | [_], _ => rfl) ?_ c_is_head_told
  intro q hq; cases hq
theorem is_term_kind (X : K.In h) (G : h.Ns mainGlobals mg) (c : He.SaysD fa fn K) : DefIs K mg gl fs bn "term_kind" ["width", "kinds", "term", "deep"] [] (d_term_kind, 4, 7) := by
  obtain ⟨fd, F⟩ := c.def_ 7 (d := e_term_kind) rfl
  have F : FunD K "term_kind" "term_kind" (defArgs s_term_kind) (defBody s_term_kind) (defScope s_term_kind) [] [] (He.ga K "term_kind") fd := F
  refine defIs_of (N := n_term_kind) F (He.glo_ok X G (c.fact 27 (f := .glo "term_kind") rfl)) sc_term_kind (F.bindsN fun _ _ _ _ _ _ us hl => match us, hl with | [_, _, _, _], _ => rfl) ?_ c_term_kind
  intro q hq; cases hq
theorem is_is_worded_row (X : K.In h) (G : h.Ns mainGlobals mg) (c : He.SaysD fa fn K) : DefIs K mg gl fs bn "is_worded_row" ["value", "word", "many"] [] (d_is_worded_row, 3, 3) := by
  obtain ⟨fd, F⟩ := c.def_ 8 (d := e_is_worded_row) rfl
  have F : FunD K "is_worded_row" "is_worded_row" (defArgs s_is_worded_row) (defBody s_is_worded_row) (defScope s_is_worded_row) [] [] (He.ga K "is_worded_row") fd := F
  refine defIs_of (N := n_is_worded_row) F (He.glo_ok X G (c.fact 28 (f := .glo "is_worded_row") rfl)) sc_is_worded_row (F.bindsN fun _ _ _ _ _ _ us hl => match us, hl with | [_, _, _], _ => rfl) ?_ c_is_worded_row
  intro q hq; cases hq
theorem is_is_named (X : K.In h) (G : h.Ns mainGlobals mg) (c : He.SaysD fa fn K) : DefIs K mg gl fs bn "is_named" ["kinds", "name", "kind"] [] (d_is_named, 3, 3) := by
  obtain ⟨fd, F⟩ := c.def_ 9 (d := e_is_named) rfl
  have F : FunD K "is_named" "is_named" (defArgs s_is_named) (defBody s_is_named) (defScope s_is_named) [] [] (He.ga K "is_named") fd := F
  refine defIs_of (N := n_is_named) F (He.glo_ok X G (c.fact 29 (f := .glo "is_named") rfl)) sc_is_named (F.bindsN fun _ _ _ _ _ _ us hl => match us, hl with | [_, _, _], _ => rfl) ?_ c_is_named
  intro q hq; cases hq
theorem is_is_call_row (X : K.In h) (G : h.Ns mainGlobals mg) (c : He.SaysD fa fn K) : DefIs K mg gl fs bn "is_call_row" ["book", "kinds", "row"] [] (d_is_call_row, 3, 12) := by
  obtain ⟨fd, F⟩ := c.def_ 10 (d := e_is_call_row) rfl
  have F : FunD K "is_call_row" "is_call_row" (defArgs s_is_call_row) (defBody s_is_call_row) (defScope s_is_call_row) [] [] (He.ga K "is_call_row") fd := F
  refine defIs_of (N := n_is_call_row) F (He.glo_ok X G (c.fact 30 (f := .glo "is_call_row") rfl)) sc_is_call_row (F.bindsN fun _ _ _ _ _ _ us hl => match us, hl with | [_, _, _], _ => rfl) ?_ c_is_call_row
  intro q hq; cases hq
theorem is_is_link_row (X : K.In h) (G : h.Ns mainGlobals mg) (c : He.SaysD fa fn K) : DefIs K mg gl fs bn "is_link_row" ["book", "kinds", "row"] [] (d_is_link_row, 3, 3) := by
  obtain ⟨fd, F⟩ := c.def_ 11 (d := e_is_link_row) rfl
  have F : FunD K "is_link_row" "is_link_row" (defArgs s_is_link_row) (defBody s_is_link_row) (defScope s_is_link_row) [] [] (He.ga K "is_link_row") fd := F
  refine defIs_of (N := n_is_link_row) F (He.glo_ok X G (c.fact 31 (f := .glo "is_link_row") rfl)) sc_is_link_row (F.bindsN fun _ _ _ _ _ _ us hl => match us, hl with | [_, _, _], _ => rfl) ?_ c_is_link_row
  intro q hq; cases hq
theorem is_is_row_in (X : K.In h) (G : h.Ns mainGlobals mg) (c : He.SaysD fa fn K) : DefIs K mg gl fs bn "is_row_in" ["book", "function", "row"] [] (d_is_row_in, 3, 12) := by
  obtain ⟨fd, F⟩ := c.def_ 12 (d := e_is_row_in) rfl
  have F : FunD K "is_row_in" "is_row_in" (defArgs s_is_row_in) (defBody s_is_row_in) (defScope s_is_row_in) [] [] (He.ga K "is_row_in") fd := F
  refine defIs_of (N := n_is_row_in) F (He.glo_ok X G (c.fact 32 (f := .glo "is_row_in") rfl)) sc_is_row_in (F.bindsN fun _ _ _ _ _ _ us hl => match us, hl with | [_, _, _], _ => rfl) ?_ c_is_row_in
  intro q hq; cases hq
theorem is_is_book_head (X : K.In h) (G : h.Ns mainGlobals mg) (c : He.SaysD fa fn K) : DefIs K mg gl fs bn "is_book_head" ["value"] [] (d_is_book_head, 1, 2) := by
  obtain ⟨fd, F⟩ := c.def_ 13 (d := e_is_book_head) rfl
  have F : FunD K "is_book_head" "is_book_head" (defArgs s_is_book_head) (defBody s_is_book_head) (defScope s_is_book_head) [] [] (He.ga K "is_book_head") fd := F
  refine defIs_of (N := n_is_book_head) F (He.glo_ok X G (c.fact 33 (f := .glo "is_book_head") rfl)) sc_is_book_head (F.bindsN fun _ _ _ _ _ _ us hl => match us, hl with | [_], _ => rfl) ?_ c_is_book_head
  intro q hq; cases hq
theorem is_is_book_any (X : K.In h) (G : h.Ns mainGlobals mg) (c : He.SaysD fa fn K) : DefIs K mg gl fs bn "is_book_any" ["value"] [] (d_is_book_any, 1, 4) := by
  obtain ⟨fd, F⟩ := c.def_ 14 (d := e_is_book_any) rfl
  have F : FunD K "is_book_any" "is_book_any" (defArgs s_is_book_any) (defBody s_is_book_any) (defScope s_is_book_any) [] [] (He.ga K "is_book_any") fd := F
  refine defIs_of (N := n_is_book_any) F (He.glo_ok X G (c.fact 34 (f := .glo "is_book_any") rfl)) sc_is_book_any (F.bindsN fun _ _ _ _ _ _ us hl => match us, hl with | [_], _ => rfl) ?_ c_is_book_any
  intro q hq; cases hq
theorem is_want_book (X : K.In h) (G : h.Ns mainGlobals mg) (c : He.SaysD fa fn K) : DefIs K mg gl fs bn "want_book" ["book"] [] (d_want_book, 1, 1) := by
  obtain ⟨fd, F⟩ := c.def_ 15 (d := e_want_book) rfl
  have F : FunD K "want_book" "want_book" (defArgs s_want_book) (defBody s_want_book) (defScope s_want_book) [] [] (He.ga K "want_book") fd := F
  refine defIs_of (N := n_want_book) F (He.glo_ok X G (c.fact 35 (f := .glo "want_book") rfl)) sc_want_book (F.bindsN fun _ _ _ _ _ _ us hl => match us, hl with | [_], _ => rfl) ?_ c_want_book
  intro q hq; cases hq
theorem is_rows_of_function (X : K.In h) (G : h.Ns mainGlobals mg) (c : He.SaysD fa fn K) : DefIs K mg gl fs bn "rows_of_function" ["book", "function"] [] (d_rows_of_function, 2, 2) := by
  obtain ⟨fd, F⟩ := c.def_ 16 (d := e_rows_of_function) rfl
  have F : FunD K "rows_of_function" "rows_of_function" (defArgs s_rows_of_function) (defBody s_rows_of_function) (defScope s_rows_of_function) [] [] (He.ga K "rows_of_function") fd := F
  refine defIs_of (N := n_rows_of_function) F (He.glo_ok X G (c.fact 36 (f := .glo "rows_of_function") rfl)) sc_rows_of_function (F.bindsN fun _ _ _ _ _ _ us hl => match us, hl with | [_, _], _ => rfl) ?_ c_rows_of_function
  intro q hq; cases hq
theorem is_ways_of_row (X : K.In h) (G : h.Ns mainGlobals mg) (c : He.SaysD fa fn K) : DefIs K mg gl fs bn "ways_of_row" ["book", "function", "row"] [] (d_ways_of_row, 3, 4) := by
  obtain ⟨fd, F⟩ := c.def_ 17 (d := e_ways_of_row) rfl
  have F : FunD K "ways_of_row" "ways_of_row" (defArgs s_ways_of_row) (defBody s_ways_of_row) (defScope s_ways_of_row) [] [] (He.ga K "ways_of_row") fd := F
  refine defIs_of (N := n_ways_of_row) F (He.glo_ok X G (c.fact 37 (f := .glo "ways_of_row") rfl)) sc_ways_of_row (F.bindsN fun _ _ _ _ _ _ us hl => match us, hl with | [_, _, _], _ => rfl) ?_ c_ways_of_row
  intro q hq; cases hq
theorem is_rows_from_begin (X : K.In h) (G : h.Ns mainGlobals mg) (c : He.SaysD fa fn K) : DefIs K mg gl fs bn "rows_from_begin" ["book", "function"] [] (d_rows_from_begin, 2, 5) := by
  obtain ⟨fd, F⟩ := c.def_ 18 (d := e_rows_from_begin) rfl
  have F : FunD K "rows_from_begin" "rows_from_begin" (defArgs s_rows_from_begin) (defBody s_rows_from_begin) (defScope s_rows_from_begin) [] [] (He.ga K "rows_from_begin") fd := F
  refine defIs_of (N := n_rows_from_begin) F (He.glo_ok X G (c.fact 38 (f := .glo "rows_from_begin") rfl)) sc_rows_from_begin (F.bindsN fun _ _ _ _ _ _ us hl => match us, hl with | [_, _], _ => rfl) ?_ c_rows_from_begin
  intro q hq; cases hq
theorem is_calls_of (X : K.In h) (G : h.Ns mainGlobals mg) (c : He.SaysD fa fn K) : DefIs K mg gl fs bn "calls_of" ["book", "function"] [] (d_calls_of, 2, 4) := by
  obtain ⟨fd, F⟩ := c.def_ 19 (d := e_calls_of) rfl
  have F : FunD K "calls_of" "calls_of" (defArgs s_calls_of) (defBody s_calls_of) (defScope s_calls_of) [] [] (He.ga K "calls_of") fd := F
  refine defIs_of (N := n_calls_of) F (He.glo_ok X G (c.fact 39 (f := .glo "calls_of") rfl)) sc_calls_of (F.bindsN fun _ _ _ _ _ _ us hl => match us, hl with | [_, _], _ => rfl) ?_ c_calls_of
  intro q hq; cases hq
theorem is_functions_reached (X : K.In h) (G : h.Ns mainGlobals mg) (c : He.SaysD fa fn K) : DefIs K mg gl fs bn "functions_reached" ["book"] [] (d_functions_reached, 1, 4) := by
  obtain ⟨fd, F⟩ := c.def_ 20 (d := e_functions_reached) rfl
  have F : FunD K "functions_reached" "functions_reached" (defArgs s_functions_reached) (defBody s_functions_reached) (defScope s_functions_reached) [] [] (He.ga K "functions_reached") fd := F
  refine defIs_of (N := n_functions_reached) F (He.glo_ok X G (c.fact 40 (f := .glo "functions_reached") rfl)) sc_functions_reached (F.bindsN fun _ _ _ _ _ _ us hl => match us, hl with | [_], _ => rfl) ?_ c_functions_reached
  intro q hq; cases hq
theorem is_frames_of_calls (X : K.In h) (G : h.Ns mainGlobals mg) (c : He.SaysD fa fn K) : DefIs K mg gl fs bn "frames_of_calls" ["book"] [] (d_frames_of_calls, 1, 5) := by
  obtain ⟨fd, F⟩ := c.def_ 21 (d := e_frames_of_calls) rfl
  have F : FunD K "frames_of_calls" "frames_of_calls" (defArgs s_frames_of_calls) (defBody s_frames_of_calls) (defScope s_frames_of_calls) [] [] (He.ga K "frames_of_calls") fd := F
  refine defIs_of (N := n_frames_of_calls) F (He.glo_ok X G (c.fact 41 (f := .glo "frames_of_calls") rfl)) sc_frames_of_calls (F.bindsN fun _ _ _ _ _ _ us hl => match us, hl with | [_], _ => rfl) ?_ c_frames_of_calls
  intro q hq; cases hq
theorem is_want_function_of (X : K.In h) (G : h.Ns mainGlobals mg) (c : He.SaysD fa fn K) : DefIs K mg gl fs bn "want_function_of" ["book", "function"] [] (d_want_function_of, 2, 2) := by
  obtain ⟨fd, F⟩ := c.def_ 22 (d := e_want_function_of) rfl
  have F : FunD K "want_function_of" "want_function_of" (defArgs s_want_function_of) (defBody s_want_function_of) (defScope s_want_function_of) [] [] (He.ga K "want_function_of") fd := F
  refine defIs_of (N := n_want_function_of) F (He.glo_ok X G (c.fact 42 (f := .glo "want_function_of") rfl)) sc_want_function_of (F.bindsN fun _ _ _ _ _ _ us hl => match us, hl with | [_, _], _ => rfl) ?_ c_want_function_of
  intro q hq; cases hq
theorem is_is_book (X : K.In h) (G : h.Ns mainGlobals mg) (c : He.SaysD fa fn K) : DefIs K mg gl fs bn "is_book" ["value"] [] (d_is_book, 1, 1) := by
  obtain ⟨fd, F⟩ := c.def_ 23 (d := e_is_book) rfl
  have F : FunD K "is_book" "is_book" (defArgs s_is_book) (defBody s_is_book) (defScope s_is_book) [] [] (He.ga K "is_book") fd := F
  refine defIs_of (N := n_is_book) F (He.glo_ok X G (c.fact 43 (f := .glo "is_book") rfl)) sc_is_book (F.bindsN fun _ _ _ _ _ _ us hl => match us, hl with | [_], _ => rfl) ?_ c_is_book
  intro q hq; cases hq
theorem is_row_ways (X : K.In h) (G : h.Ns mainGlobals mg) (c : He.SaysD fa fn K) : DefIs K mg gl fs bn "row_ways" ["book", "function", "row"] [(0, ["row", "function", "book"])] (d_row_ways, 3, 3) := by
  obtain ⟨fd, F⟩ := c.def_ 24 (d := e_row_ways) rfl
  have F : FunD K "row_ways" "row_ways" (defArgs s_row_ways) (defBody s_row_ways) (defScope s_row_ways) [] [] (He.ga K "row_ways") fd := F
  refine defIs_of (N := n_row_ways) F (He.glo_ok X G (c.fact 44 (f := .glo "row_ways") rfl)) sc_row_ways (F.bindsN fun _ _ _ _ _ _ us hl => match us, hl with | [_, _, _], _ => rfl) ?_ c_row_ways
  intro q hq
  rcases List.mem_cons.mp hq with rfl | hq
  · exact kwB_of F fun _ _ _ _ _ _ us ws h1 h2 => match us, h1, ws, h2 with | [], _, [_, _, _], _ => rfl
  cases hq
theorem is_called_by (X : K.In h) (G : h.Ns mainGlobals mg) (c : He.SaysD fa fn K) : DefIs K mg gl fs bn "called_by" ["book", "function"] [(0, ["function", "book"])] (d_called_by, 2, 2) := by
  obtain ⟨fd, F⟩ := c.def_ 25 (d := e_called_by) rfl
  have F : FunD K "called_by" "called_by" (defArgs s_called_by) (defBody s_called_by) (defScope s_called_by) [] [] (He.ga K "called_by") fd := F
  refine defIs_of (N := n_called_by) F (He.glo_ok X G (c.fact 45 (f := .glo "called_by") rfl)) sc_called_by (F.bindsN fun _ _ _ _ _ _ us hl => match us, hl with | [_, _], _ => rfl) ?_ c_called_by
  intro q hq
  rcases List.mem_cons.mp hq with rfl | hq
  · exact kwB_of F fun _ _ _ _ _ _ us ws h1 h2 => match us, h1, ws, h2 with | [], _, [_, _], _ => rfl
  cases hq
theorem is_reached_rows (X : K.In h) (G : h.Ns mainGlobals mg) (c : He.SaysD fa fn K) : DefIs K mg gl fs bn "reached_rows" ["book"] [(0, ["book"])] (d_reached_rows, 1, 4) := by
  obtain ⟨fd, F⟩ := c.def_ 26 (d := e_reached_rows) rfl
  have F : FunD K "reached_rows" "reached_rows" (defArgs s_reached_rows) (defBody s_reached_rows) (defScope s_reached_rows) [] [] (He.ga K "reached_rows") fd := F
  refine defIs_of (N := n_reached_rows) F (He.glo_ok X G (c.fact 46 (f := .glo "reached_rows") rfl)) sc_reached_rows (F.bindsN fun _ _ _ _ _ _ us hl => match us, hl with | [_], _ => rfl) ?_ c_reached_rows
  intro q hq
  rcases List.mem_cons.mp hq with rfl | hq
  · exact kwB_of F fun _ _ _ _ _ _ us ws h1 h2 => match us, h1, ws, h2 with | [], _, [_], _ => rfl
  cases hq
theorem is_frames_wanted (X : K.In h) (G : h.Ns mainGlobals mg) (c : He.SaysD fa fn K) : DefIs K mg gl fs bn "frames_wanted" ["book"] [(0, ["book"])] (d_frames_wanted, 1, 1) := by
  obtain ⟨fd, F⟩ := c.def_ 27 (d := e_frames_wanted) rfl
  have F : FunD K "frames_wanted" "frames_wanted" (defArgs s_frames_wanted) (defBody s_frames_wanted) (defScope s_frames_wanted) [] [] (He.ga K "frames_wanted") fd := F
  refine defIs_of (N := n_frames_wanted) F (He.glo_ok X G (c.fact 47 (f := .glo "frames_wanted") rfl)) sc_frames_wanted (F.bindsN fun _ _ _ _ _ _ us hl => match us, hl with | [_], _ => rfl) ?_ c_frames_wanted
  intro q hq
  rcases List.mem_cons.mp hq with rfl | hq
  · exact kwB_of F fun _ _ _ _ _ _ us ws h1 h2 => match us, h1, ws, h2 with | [], _, [_], _ => rfl
  cases hq
theorem is__law_pot (X : K.In h) (G : h.Ns mainGlobals mg) (c : He.SaysD fa fn K) : DefIs K mg gl fs bn "_law_pot" ["script", "k"] [] (d__law_pot, 2, 3) := by
  obtain ⟨fd, F⟩ := c.def_ 28 (d := e__law_pot) rfl
  have F : FunD K "_law_pot" "_law_pot" (defArgs s__law_pot) (defBody s__law_pot) (defScope s__law_pot) [] [] (He.ga K "_law_pot") fd := F
  refine defIs_of (N := n__law_pot) F (He.glo_ok X G (c.fact 48 (f := .glo "_law_pot") rfl)) sc__law_pot (F.bindsN fun _ _ _ _ _ _ us hl => match us, hl with | [_, _], _ => rfl) ?_ c__law_pot
  intro q hq; cases hq
theorem is__law_draw (X : K.In h) (G : h.Ns mainGlobals mg) (c : He.SaysD fa fn K) : DefIs K mg gl fs bn "_law_draw" ["pot", "many"] [] (d__law_draw, 2, 3) := by
  obtain ⟨fd, F⟩ := c.def_ 29 (d := e__law_draw) rfl
  have F : FunD K "_law_draw" "_law_draw" (defArgs s__law_draw) (defBody s__law_draw) (defScope s__law_draw) [] [] (He.ga K "_law_draw") fd := F
  refine defIs_of (N := n__law_draw) F (He.glo_ok X G (c.fact 49 (f := .glo "_law_draw") rfl)) sc__law_draw (F.bindsN fun _ _ _ _ _ _ us hl => match us, hl with | [_, _], _ => rfl) ?_ c__law_draw
  intro q hq; cases hq
theorem is__law_pick (X : K.In h) (G : h.Ns mainGlobals mg) (c : He.SaysD fa fn K) : DefIs K mg gl fs bn "_law_pick" ["pot", "some"] [] (d__law_pick, 2, 2) := by
  obtain ⟨fd, F⟩ := c.def_ 30 (d := e__law_pick) rfl
  have F : FunD K "_law_pick" "_law_pick" (defArgs s__law_pick) (defBody s__law_pick) (defScope s__law_pick) [] [] (He.ga K "_law_pick") fd := F
  refine defIs_of (N := n__law_pick) F (He.glo_ok X G (c.fact 50 (f := .glo "_law_pick") rfl)) sc__law_pick (F.bindsN fun _ _ _ _ _ _ us hl => match us, hl with | [_, _], _ => rfl) ?_ c__law_pick
  intro q hq; cases hq
theorem is__law_row (X : K.In h) (G : h.Ns mainGlobals mg) (c : He.SaysD fa fn K) : DefIs K mg gl fs bn "_law_row" ["pot", "functions", "many"] [] (d__law_row, 3, 4) := by
  obtain ⟨fd, F⟩ := c.def_ 31 (d := e__law_row) rfl
  have F : FunD K "_law_row" "_law_row" (defArgs s__law_row) (defBody s__law_row) (defScope s__law_row) [] [] (He.ga K "_law_row") fd := F
  refine defIs_of (N := n__law_row) F (He.glo_ok X G (c.fact 51 (f := .glo "_law_row") rfl)) sc__law_row (F.bindsN fun _ _ _ _ _ _ us hl => match us, hl with | [_, _, _], _ => rfl) ?_ c__law_row
  intro q hq; cases hq
theorem is__law_book (X : K.In h) (G : h.Ns mainGlobals mg) (c : He.SaysD fa fn K) : DefIs K mg gl fs bn "_law_book" ["pot"] [] (d__law_book, 1, 7) := by
  obtain ⟨fd, F⟩ := c.def_ 32 (d := e__law_book) rfl
  have F : FunD K "_law_book" "_law_book" (defArgs s__law_book) (defBody s__law_book) (defScope s__law_book) [] [] (He.ga K "_law_book") fd := F
  refine defIs_of (N := n__law_book) F (He.glo_ok X G (c.fact 52 (f := .glo "_law_book") rfl)) sc__law_book (F.bindsN fun _ _ _ _ _ _ us hl => match us, hl with | [_], _ => rfl) ?_ c__law_book
  intro q hq; cases hq
theorem is__law_ways (X : K.In h) (G : h.Ns mainGlobals mg) (c : He.SaysD fa fn K) : DefIs K mg gl fs bn "_law_ways" ["rows", "at"] [] (d__law_ways, 2, 4) := by
  obtain ⟨fd, F⟩ := c.def_ 33 (d := e__law_ways) rfl
  have F : FunD K "_law_ways" "_law_ways" (defArgs s__law_ways) (defBody s__law_ways) (defScope s__law_ways) [] [] (He.ga K "_law_ways") fd := F
  refine defIs_of (N := n__law_ways) F (He.glo_ok X G (c.fact 53 (f := .glo "_law_ways") rfl)) sc__law_ways (F.bindsN fun _ _ _ _ _ _ us hl => match us, hl with | [_, _], _ => rfl) ?_ c__law_ways
  intro q hq; cases hq
theorem is__law_closed (X : K.In h) (G : h.Ns mainGlobals mg) (c : He.SaysD fa fn K) : DefIs K mg gl fs bn "_law_closed" ["begin", "coming"] [] (d__law_closed, 2, 7) := by
  obtain ⟨fd, F⟩ := c.def_ 34 (d := e__law_closed) rfl
  have F : FunD K "_law_closed" "_law_closed" (defArgs s__law_closed) (defBody s__law_closed) (defScope s__law_closed) [] [] (He.ga K "_law_closed") fd := F
  refine defIs_of (N := n__law_closed) F (He.glo_ok X G (c.fact 54 (f := .glo "_law_closed") rfl)) sc__law_closed (F.bindsN fun _ _ _ _ _ _ us hl => match us, hl with | [_, _], _ => rfl) ?_ c__law_closed
  intro q hq; cases hq
theorem is__law_frames (X : K.In h) (G : h.Ns mainGlobals mg) (c : He.SaysD fa fn K) : DefIs K mg gl fs bn "_law_frames" ["calls"] [] (d__law_frames, 1, 5) := by
  obtain ⟨fd, F⟩ := c.def_ 35 (d := e__law_frames) rfl
  have F : FunD K "_law_frames" "_law_frames" (defArgs s__law_frames) (defBody s__law_frames) (defScope s__law_frames) [] [] (He.ga K "_law_frames") fd := F
  refine defIs_of (N := n__law_frames) F (He.glo_ok X G (c.fact 55 (f := .glo "_law_frames") rfl)) sc__law_frames (F.bindsN fun _ _ _ _ _ _ us hl => match us, hl with | [_], _ => rfl) ?_ c__law_frames
  intro q hq; cases hq
theorem is__law_right (X : K.In h) (G : h.Ns mainGlobals mg) (c : He.SaysD fa fn K) : DefIs K mg gl fs bn "_law_right" ["pot"] [] (d__law_right, 1, 13) := by
  obtain ⟨fd, F⟩ := c.def_ 36 (d := e__law_right) rfl
  have F : FunD K "_law_right" "_law_right" (defArgs s__law_right) (defBody s__law_right) (defScope s__law_right) [] [] (He.ga K "_law_right") fd := F
  refine defIs_of (N := n__law_right) F (He.glo_ok X G (c.fact 56 (f := .glo "_law_right") rfl)) sc__law_right (F.bindsN fun _ _ _ _ _ _ us hl => match us, hl with | [_], _ => rfl) ?_ c__law_right
  intro q hq; cases hq
theorem is_law (X : K.In h) (G : h.Ns mainGlobals mg) (c : He.SaysD fa fn K) : DefIs K mg gl fs bn "law" ["script"] [] (d_law, 1, 4) := by
  obtain ⟨fd, F⟩ := c.def_ 37 (d := e_law) rfl
  have F : FunD K "law" "law" (defArgs s_law) (defBody s_law) (defScope s_law) [] [] (He.ga K "law") fd := F
  refine defIs_of (N := n_law) F (He.glo_ok X G (c.fact 57 (f := .glo "law") rfl)) sc_law (F.bindsN fun _ _ _ _ _ _ us hl => match us, hl with | [_], _ => rfl) ?_ c_law
  intro q hq; cases hq
theorem mod_ok (X : K.In h) (G : h.Ns mainGlobals mg) (c : He.SaysD fa fn K) (ce : ex K = true) : ModIs (tx K) mg gl fs bn tab := by
  unfold ex at ce
  obtain ⟨ce, ce0⟩ := Bool.and_eq_true_iff.mp ce
  refine modIs_of ?_ ?_ ?_
  · intro p hp
    rcases List.mem_cons.mp hp with rfl | hp
    · exact gl_str (T := tx K) X G (c.fact 0 (f := .str "BOOK" (S [98, 111, 111, 107])) rfl)
    rcases List.mem_cons.mp hp with rfl | hp
    · exact gl_str (T := tx K) X G (c.fact 1 (f := .str "FUNCTION" (S [102, 117, 110, 99, 116, 105, 111, 110])) rfl)
    rcases List.mem_cons.mp hp with rfl | hp
    · exact gl_str (T := tx K) X G (c.fact 2 (f := .str "WORD" (S [119, 111, 114, 100])) rfl)
    rcases List.mem_cons.mp hp with rfl | hp
    · exact gl_str (T := tx K) X G (c.fact 3 (f := .str "LINK" (S [108, 105, 110, 107])) rfl)
    rcases List.mem_cons.mp hp with rfl | hp
    · exact gl_any (T := tx K) X G ce0
    rcases List.mem_cons.mp hp with rfl | hp
    · exact gl_str (T := tx K) X G (c.fact 5 (f := .str "VAL" (S [118, 97, 108])) rfl)
    rcases List.mem_cons.mp hp with rfl | hp
    · exact gl_str (T := tx K) X G (c.fact 6 (f := .str "NEXT" (S [110, 101, 120, 116])) rfl)
    rcases List.mem_cons.mp hp with rfl | hp
    · exact gl_wd (ts := tabs) (i := 0) (ks := [[118, 97, 108], [110, 101, 120, 116]]) X G (c.fact 7 (f := .glo "PART_KINDS") rfl) rfl
    rcases List.mem_cons.mp hp with rfl | hp
    · exact gl_int (T := tx K) X G (c.fact 8 (f := .int "LEAST_WIDTH" (2)) rfl)
    rcases List.mem_cons.mp hp with rfl | hp
    · exact gl_int (T := tx K) X G (c.fact 9 (f := .int "MOST_WIDTH" (8)) rfl)
    rcases List.mem_cons.mp hp with rfl | hp
    · exact gl_int (T := tx K) X G (c.fact 10 (f := .int "MOST_DEPTH" (4)) rfl)
    rcases List.mem_cons.mp hp with rfl | hp
    · exact gl_int (T := tx K) X G (c.fact 11 (f := .int "MOST_ROOM" (4)) rfl)
    rcases List.mem_cons.mp hp with rfl | hp
    · exact gl_int (T := tx K) X G (c.fact 12 (f := .int "MOST_FUNCTIONS" (6)) rfl)
    rcases List.mem_cons.mp hp with rfl | hp
    · exact gl_int (T := tx K) X G (c.fact 13 (f := .int "MOST_PARAMS" (3)) rfl)
    rcases List.mem_cons.mp hp with rfl | hp
    · exact gl_int (T := tx K) X G (c.fact 14 (f := .int "MOST_NAMES" (8)) rfl)
    rcases List.mem_cons.mp hp with rfl | hp
    · exact gl_int (T := tx K) X G (c.fact 15 (f := .int "MOST_BOOK_ROWS" (60)) rfl)
    rcases List.mem_cons.mp hp with rfl | hp
    · exact gl_int (T := tx K) X G (c.fact 16 (f := .int "MOST_TERM_DEEP" (4)) rfl)
    rcases List.mem_cons.mp hp with rfl | hp
    · exact gl_int (T := tx K) X G (c.fact 17 (f := .int "MOST_TITLE" (20)) rfl)
    rcases List.mem_cons.mp hp with rfl | hp
    · exact gl_str (T := tx K) X G (c.fact 18 (f := .str "SMALL" (S [97, 98, 99, 100, 101, 102, 103, 104, 105, 106, 107, 108, 109, 110, 111, 112, 113, 114, 115, 116, 117, 118, 119, 120, 121, 122])) rfl)
    rcases List.mem_cons.mp hp with rfl | hp
    · exact gl_str (T := tx K) X G (c.fact 19 (f := .str "TITLE_SIGNS" (S [97, 98, 99, 100, 101, 102, 103, 104, 105, 106, 107, 108, 109, 110, 111, 112, 113, 114, 115, 116, 117, 118, 119, 120, 121, 122, 48, 49, 50, 51, 52, 53, 54, 55, 56, 57])) rfl)
    cases hp
  · intro y hy
    rcases List.mem_cons.mp hy with rfl | hy
    · exact He.free_ok X G (c.fact 58 (f := .free "abs") rfl)
    rcases List.mem_cons.mp hy with rfl | hy
    · exact He.free_ok X G (c.fact 59 (f := .free "all") rfl)
    rcases List.mem_cons.mp hy with rfl | hy
    · exact He.free_ok X G (c.fact 60 (f := .free "bool") rfl)
    rcases List.mem_cons.mp hy with rfl | hy
    · exact He.free_ok X G (c.fact 61 (f := .free "dict") rfl)
    rcases List.mem_cons.mp hy with rfl | hy
    · exact He.free_ok X G (c.fact 62 (f := .free "divmod") rfl)
    rcases List.mem_cons.mp hy with rfl | hy
    · exact He.free_ok X G (c.fact 63 (f := .free "enumerate") rfl)
    rcases List.mem_cons.mp hy with rfl | hy
    · exact He.free_ok X G (c.fact 64 (f := .free "int") rfl)
    rcases List.mem_cons.mp hy with rfl | hy
    · exact He.free_ok X G (c.fact 65 (f := .free "isinstance") rfl)
    rcases List.mem_cons.mp hy with rfl | hy
    · exact He.free_ok X G (c.fact 66 (f := .free "len") rfl)
    rcases List.mem_cons.mp hy with rfl | hy
    · exact He.free_ok X G (c.fact 67 (f := .free "max") rfl)
    rcases List.mem_cons.mp hy with rfl | hy
    · exact He.free_ok X G (c.fact 68 (f := .free "min") rfl)
    rcases List.mem_cons.mp hy with rfl | hy
    · exact He.free_ok X G (c.fact 69 (f := .free "range") rfl)
    rcases List.mem_cons.mp hy with rfl | hy
    · exact He.free_ok X G (c.fact 70 (f := .free "repr") rfl)
    rcases List.mem_cons.mp hy with rfl | hy
    · exact He.free_ok X G (c.fact 71 (f := .free "set") rfl)
    rcases List.mem_cons.mp hy with rfl | hy
    · exact He.free_ok X G (c.fact 72 (f := .free "sorted") rfl)
    rcases List.mem_cons.mp hy with rfl | hy
    · exact He.free_ok X G (c.fact 73 (f := .free "str") rfl)
    rcases List.mem_cons.mp hy with rfl | hy
    · exact He.free_ok X G (c.fact 74 (f := .free "tuple") rfl)
    cases hy
  · intro q hq
    rcases List.mem_cons.mp hq with rfl | hq
    · exact ⟨_, rfl, is_is_integer X G c⟩
    rcases List.mem_cons.mp hq with rfl | hq
    · exact ⟨_, rfl, is_is_within X G c⟩
    rcases List.mem_cons.mp hq with rfl | hq
    · exact ⟨_, rfl, is_is_tuple X G c⟩
    rcases List.mem_cons.mp hq with rfl | hq
    · exact ⟨_, rfl, is_is_title X G c⟩
    rcases List.mem_cons.mp hq with rfl | hq
    · exact ⟨_, rfl, is_is_kind X G c⟩
    rcases List.mem_cons.mp hq with rfl | hq
    · exact ⟨_, rfl, is_are_names_told X G c⟩
    rcases List.mem_cons.mp hq with rfl | hq
    · exact ⟨_, rfl, is_is_head_told X G c⟩
    rcases List.mem_cons.mp hq with rfl | hq
    · exact ⟨_, rfl, is_term_kind X G c⟩
    rcases List.mem_cons.mp hq with rfl | hq
    · exact ⟨_, rfl, is_is_worded_row X G c⟩
    rcases List.mem_cons.mp hq with rfl | hq
    · exact ⟨_, rfl, is_is_named X G c⟩
    rcases List.mem_cons.mp hq with rfl | hq
    · exact ⟨_, rfl, is_is_call_row X G c⟩
    rcases List.mem_cons.mp hq with rfl | hq
    · exact ⟨_, rfl, is_is_link_row X G c⟩
    rcases List.mem_cons.mp hq with rfl | hq
    · exact ⟨_, rfl, is_is_row_in X G c⟩
    rcases List.mem_cons.mp hq with rfl | hq
    · exact ⟨_, rfl, is_is_book_head X G c⟩
    rcases List.mem_cons.mp hq with rfl | hq
    · exact ⟨_, rfl, is_is_book_any X G c⟩
    rcases List.mem_cons.mp hq with rfl | hq
    · exact ⟨_, rfl, is_want_book X G c⟩
    rcases List.mem_cons.mp hq with rfl | hq
    · exact ⟨_, rfl, is_rows_of_function X G c⟩
    rcases List.mem_cons.mp hq with rfl | hq
    · exact ⟨_, rfl, is_ways_of_row X G c⟩
    rcases List.mem_cons.mp hq with rfl | hq
    · exact ⟨_, rfl, is_rows_from_begin X G c⟩
    rcases List.mem_cons.mp hq with rfl | hq
    · exact ⟨_, rfl, is_calls_of X G c⟩
    rcases List.mem_cons.mp hq with rfl | hq
    · exact ⟨_, rfl, is_functions_reached X G c⟩
    rcases List.mem_cons.mp hq with rfl | hq
    · exact ⟨_, rfl, is_frames_of_calls X G c⟩
    rcases List.mem_cons.mp hq with rfl | hq
    · exact ⟨_, rfl, is_want_function_of X G c⟩
    rcases List.mem_cons.mp hq with rfl | hq
    · exact ⟨_, rfl, is_is_book X G c⟩
    rcases List.mem_cons.mp hq with rfl | hq
    · exact ⟨_, rfl, is_row_ways X G c⟩
    rcases List.mem_cons.mp hq with rfl | hq
    · exact ⟨_, rfl, is_called_by X G c⟩
    rcases List.mem_cons.mp hq with rfl | hq
    · exact ⟨_, rfl, is_reached_rows X G c⟩
    rcases List.mem_cons.mp hq with rfl | hq
    · exact ⟨_, rfl, is_frames_wanted X G c⟩
    rcases List.mem_cons.mp hq with rfl | hq
    · exact ⟨_, rfl, is__law_pot X G c⟩
    rcases List.mem_cons.mp hq with rfl | hq
    · exact ⟨_, rfl, is__law_draw X G c⟩
    rcases List.mem_cons.mp hq with rfl | hq
    · exact ⟨_, rfl, is__law_pick X G c⟩
    rcases List.mem_cons.mp hq with rfl | hq
    · exact ⟨_, rfl, is__law_row X G c⟩
    rcases List.mem_cons.mp hq with rfl | hq
    · exact ⟨_, rfl, is__law_book X G c⟩
    rcases List.mem_cons.mp hq with rfl | hq
    · exact ⟨_, rfl, is__law_ways X G c⟩
    rcases List.mem_cons.mp hq with rfl | hq
    · exact ⟨_, rfl, is__law_closed X G c⟩
    rcases List.mem_cons.mp hq with rfl | hq
    · exact ⟨_, rfl, is__law_frames X G c⟩
    rcases List.mem_cons.mp hq with rfl | hq
    · exact ⟨_, rfl, is__law_right X G c⟩
    rcases List.mem_cons.mp hq with rfl | hq
    · exact ⟨_, rfl, is_law X G c⟩
    cases hq
end
theorem ex_tabs {K : PySem.W.Frag} (ce : ex K = true) : tabs.all (dvB K) = true := by
  unfold ex at ce
  obtain ⟨ce, ce0⟩ := Bool.and_eq_true_iff.mp ce
  exact ce
def fuel : Nat := 100000
abbrev rn : Nat → List MV → MH → Rs MV := runP tab fuel 30
/-- what is left: the law's denotation says True at every script -/
def LawTrue : Prop := ∀ ns : List Int, ns.length ≤ 63 → ∃ mh, rn 37 [.fl (ns.map .int)] [] = .ok (.bl true) mh
end K23
end L2
open PySem PySem.W PySem.Calls PyProof.Rows
theorem L2.K23.holds_of (LT : L2.K23.LawTrue) : PySem.Challenge.rw_lastremains_k23_whole_ways_calls_and_row.Holds := by
  w_on; o_law
  refine HandSHeadRun.head_any (r := OpenLaw.row PySem.Challenge.rw_lastremains_k23_whole_ways_calls_and_row) (q := view (OpenLaw.row PySem.Challenge.rw_lastremains_k23_whole_ways_calls_and_row).prog [66]) (H := L2.K23.hk) (ob := L2.K23.ob) (M := 3000) (loose := L2.K23.lo) (d := HandSHeadRun.topDef (OpenLaw.row PySem.Challenge.rw_lastremains_k23_whole_ways_calls_and_row).prog 66) (kwd := []) L2.K23.ob_eq
    (by kernel_rfl) (fun s => by kernel_rfl) L2.K23.run (by kernel_rfl) (by kernel_rfl) (by kernel_rfl) (by rfl) (by first | assumption | decide +kernel) (by decide +kernel) ⟨rfl, rfl, rfl, rfl, rfl, by decide +kernel⟩ ?hw ?hc
  case hw => w_witness2
  case hc =>
    refine L2.Vf.walk_ofG (l := PySem.Challenge.rw_lastremains_k23_whole_ways_calls_and_row) (n := 63) (k := 30) (x := "script") rfl (by decide) (by kernel_rfl) ⟨rfl, by decide, by decide⟩ ?F
    intro w mg fa h Y G hmg0
    obtain ⟨K, KX, c⟩ := Y
    have hmg : mg ("law" : PySem.Str) = some (.ref fa) := by
      have e : (HandSHeadRun.topDef (OpenLaw.row PySem.Challenge.rw_lastremains_k23_whole_ways_calls_and_row).prog 66).name = ("law" : PySem.Str) := by kernel_rfl
      rw [← e]
      exact hmg0
    obtain ⟨f, fd, hF, hm, _, hb, _⟩ := L2.Vf.prog_ok (P := (PySem.Challenge.rw_lastremains_k23_whole_ways_calls_and_row).prog) (w := w) (L2.K23.mod_ok KX G c.t.d c.more) (L2.Vf.wdOk_of (L2.Vf.tabs_ok c (L2.K23.ex_tabs c.more))) L2.K23.fuel 30 "law" (37, ["script"], []) (by rfl)
    have e := hmg.symm.trans hm
    cases e
    exact ⟨L2.Vf.txW K L2.K23.tabs, fd, L2.K23.rn 37, KX, hb, LT, fun base _ _ => hF base⟩
end
section
/-! K23C: what the defs of k23 compute. -/
namespace L2
namespace K23
open PySem PySem.Spec PyProof.Rows L2.Vf
variable {F k : Nat} {mh : MH}
theorem e_draw (as : List MV) : rp F (k + 1) i__law_draw as mh = bodyR d__law_draw 2 3 ⟨rp F k, F⟩ as mh := rfl
theorem e_pick (as : List MV) : rp F (k + 1) i__law_pick as mh = bodyR d__law_pick 2 2 ⟨rp F k, F⟩ as mh := rfl
/-- a pot: at p, with wholes that stay small -/
structure Pot (mh : MH) (p : Nat) : Prop where
  ex : ∃ a b : Int, mh[p]? = some (.lst [.int a, .int b]) ∧ 0 ≤ a ∧ 0 ≤ b ∧ b < 2147483648
theorem draw_spec {p : Nat} {n : Int} (h : Pot mh p) (h1 : 0 < n) (h2 : n < 1073741824) : ∃ mh' v, rp F (k + 1) i__law_draw [.loc p, .int n] mh = .ok (.int v) mh' ∧ 0 ≤ v ∧ v < n ∧ Pot mh' p ∧ mh'.length = mh.length ∧ ∀ q, q ≠ p → mh'[q]? = mh[q]? := by
  obtain ⟨a, b, e, ha, hb, hb2⟩ := h.ex
  rw [e_draw]
  unfold d__law_draw
  have g0 : getM [.int a, .int b] 0 = some (.int a) := rfl
  have g1 : getM [.int a, .int b] 1 = some (.int b) := rfl
  have hp : p < mh.length := (List.getElem?_eq_some_iff.mp e).1
  by_cases ha0 : 0 < a
  · simp only [lim, bodyR, seqS, setS, asgS, retS, retNS, exprS, ifS, passS, par2S, par3S, toS, bnd, op1D, op2D, opND, nilD, consD, varD, conD, boolD, truD, trM, andD, orD, notD, ifD, andV, orV, callD, callM, callKD, methAD, meth0D, pickA, isLstM, isStrM, isDctM, chainD, dispD, dnewD, pnilD, pconsD, ifB, sliceD, partD, noPartD, lft, tupG, nameG, consG, nilG, List.map_cons, List.map_nil, List.length_cons, List.length_nil, List.cons_append, List.nil_append, List.append_nil, List.getElem?_cons_zero, List.getElem?_cons_succ, List.set_cons_zero, List.set_cons_succ, List.replicate, Nat.beq_eq, Nat.ble_eq, Nat.blt_eq, Nat.reduceLT, Nat.reduceLeDiff, Int.reduceLT, Int.reduceLE, Int.reduceNeg, Int.reducePow, decide_true, decide_false, Bool.and_self, Bool.and_true, Bool.true_and, Bool.not_true, Bool.not_false, beq_self_eq_true, ite_true, ite_false, if_true, if_false, Nat.reduceAdd, Nat.reduceSub, Nat.zero_add, Bool.false_eq_true, reduceIte, ixM, e, g0, gtM, ha0, decide_true, divmodN, h1, h2, Bool.and_self, subG, stIx]
    refine ⟨_, _, rfl, Int.emod_nonneg _ (by omega), Int.emod_lt_of_pos _ h1, ⟨_, _, List.getElem?_set_self hp, Int.ediv_nonneg ha (by omega), hb, hb2⟩, List.length_set, fun q hq => List.getElem?_set_ne (by omega)⟩
  · have m1 : mulOk b 40692 = true := by simp [mulOk]
    have b1 : 0 ≤ (b * 40692 + 10331) % 2147483587 := Int.emod_nonneg _ (by decide)
    have b2 : (b * 40692 + 10331) % 2147483587 < 2147483587 := Int.emod_lt_of_pos _ (by decide)
    have g2 : ∀ x : Int, getM [.int a, .int x] 1 = some (.int x) := fun _ => rfl
    generalize hx : (b * 40692 + 10331) % 2147483587 = x at *
    have m2 : mulOk x x = true := by simp [mulOk]; omega
    simp only [lim, bodyR, seqS, setS, asgS, retS, retNS, exprS, ifS, passS, par2S, par3S, toS, bnd, op1D, op2D, opND, nilD, consD, varD, conD, boolD, truD, trM, andD, orD, notD, ifD, andV, orV, callD, callM, callKD, methAD, meth0D, pickA, isLstM, isStrM, isDctM, chainD, dispD, dnewD, pnilD, pconsD, ifB, sliceD, partD, noPartD, lft, tupG, nameG, consG, nilG, List.map_cons, List.map_nil, List.length_cons, List.length_nil, List.cons_append, List.nil_append, List.append_nil, List.getElem?_cons_zero, List.getElem?_cons_succ, List.set_cons_zero, List.set_cons_succ, List.replicate, Nat.beq_eq, Nat.ble_eq, Nat.blt_eq, Nat.reduceLT, Nat.reduceLeDiff, Int.reduceLT, Int.reduceLE, Int.reduceNeg, Int.reducePow, decide_true, decide_false, Bool.and_self, Bool.and_true, Bool.true_and, Bool.not_true, Bool.not_false, beq_self_eq_true, ite_true, ite_false, if_true, if_false, Nat.reduceAdd, Nat.reduceSub, Nat.zero_add, Bool.false_eq_true, reduceIte, ixM, e, g0, g1, gtM, ha0, mulM, m1, addM, intN, modM, subG, stIx, List.getElem?_set_self hp, g2, hx, m2, fdivM, h1]
    refine ⟨_, _, rfl, Int.emod_nonneg _ (by omega), Int.emod_lt_of_pos _ h1, ⟨_, _, List.getElem?_set_self hp, ha, b1, by omega⟩, List.length_set, fun q hq => List.getElem?_set_ne (by omega)⟩
/-- mh' goes on from mh, but for what stands at p -/
structure Fr (p : Nat) (mh mh' : MH) : Prop where
  le : mh.length ≤ mh'.length
  keep : ∀ q, q < mh.length → q ≠ p → mh'[q]? = mh[q]?
theorem Fr.refl {p : Nat} : Fr p mh mh := ⟨Nat.le_refl _, fun _ _ _ => rfl⟩
theorem Fr.trans {p : Nat} {a b c : MH} (x : Fr p a b) (y : Fr p b c) : Fr p a c := ⟨Nat.le_trans x.le y.le, fun q h n => (y.keep q (Nat.lt_of_lt_of_le h x.le) n).trans (x.keep q h n)⟩
theorem Fr.app {p : Nat} {nw : MH} : Fr p mh (mh ++ nw) := ⟨by simp, fun q h _ => List.getElem?_append_left h⟩
theorem Pot.app {p : Nat} {nw : MH} (h : Pot mh p) : Pot (mh ++ nw) p := by
  obtain ⟨a, b, e, r⟩ := h.ex
  exact ⟨a, b, by rw [List.getElem?_append_left (List.getElem?_eq_some_iff.mp e).1]; exact e, r⟩
theorem Pot.lt {p : Nat} (h : Pot mh p) : p < mh.length := by
  obtain ⟨a, b, e, r⟩ := h.ex
  exact (List.getElem?_eq_some_iff.mp e).1
theorem pick_spec {p q : Nat} {xs : List MV} (h : Pot mh p) (hq : mh[q]? = some (.lst xs)) (hp : q ≠ p) (h1 : 0 < xs.length) (h2 : xs.length < 1073741824) : ∃ mh' v, rp F (k + 2) i__law_pick [.loc p, .loc q] mh = .ok v mh' ∧ v ∈ xs ∧ Pot mh' p ∧ Fr p mh mh' := by
  obtain ⟨mh', i, e, i0, i1, hP, hL, hK⟩ := draw_spec (F := F) (k := k) (mh := mh) (p := p) (n := xs.length) h (by omega) (by omega)
  rw [e_pick]
  unfold d__law_pick
  have hq' : mh'[q]? = some (.lst xs) := by rw [hK q hp]; exact hq
  obtain ⟨j, rfl⟩ := Int.eq_ofNat_of_zero_le i0
  have hj : j < xs.length := by omega
  have hg : getM xs (j : Int) = some xs[j] := by rw [getM_nat]; exact List.getElem?_eq_getElem hj
  simp only [lim, bodyR, seqS, setS, asgS, retS, retNS, exprS, ifS, passS, par2S, par3S, toS, bnd, op1D, op2D, opND, nilD, consD, varD, conD, boolD, truD, trM, andD, orD, notD, ifD, andV, orV, callD, callM, callKD, methAD, meth0D, pickA, isLstM, isStrM, isDctM, chainD, dispD, dnewD, pnilD, pconsD, ifB, sliceD, partD, noPartD, lft, tupG, nameG, consG, nilG, List.map_cons, List.map_nil, List.length_cons, List.length_nil, List.cons_append, List.nil_append, List.append_nil, List.getElem?_cons_zero, List.getElem?_cons_succ, List.set_cons_zero, List.set_cons_succ, List.replicate, Nat.beq_eq, Nat.ble_eq, Nat.blt_eq, Nat.reduceLT, Nat.reduceLeDiff, Int.reduceLT, Int.reduceLE, Int.reduceNeg, Int.reducePow, decide_true, decide_false, Bool.and_self, Bool.and_true, Bool.true_and, Bool.not_true, Bool.not_false, beq_self_eq_true, ite_true, ite_false, if_true, if_false, Nat.reduceAdd, Nat.reduceSub, Nat.zero_add, Bool.false_eq_true, reduceIte, ixM, lenN, lenM, hq, e, hq', hg]
  exact ⟨_, _, rfl, List.getElem_mem _, hP, ⟨by omega, fun r _ n => hK r n⟩⟩
theorem e_pot (as : List MV) : rp F (k + 1) i__law_pot as mh = bodyR d__law_pot 2 3 ⟨rp F k, F⟩ as mh := rfl
theorem pot_spec {ns : List Int} {i : Nat} (hi : i ≤ 2) : ∃ mh' p, rp F (k + 1) i__law_pot [.fl (ns.map .int), .int i] mh = .ok (.loc p) mh' ∧ Pot mh' p ∧ Fr p mh mh' := by
  rw [e_pot]
  unfold d__law_pot
  have mA : mulOk 2677 i = true := by simp [mulOk]
  have mC : ∀ x : Int, mulOk x 40014 = true := by simp [mulOk]
  have mB : mulOk 6733 i = true := by simp [mulOk]
  have fin : ∀ c : Int, ∃ mh' p, (Rs.ok (MV.loc mh.length) (mh ++ [MO.lst [MV.int (if c - 1000000000000000000 > 0 then c - 1000000000000000000 else 0), MV.int ((c % 2147483549 * 40014 + 6733 * i + 1871) % 2147483563 + 1)]])) = .ok (.loc p) mh' ∧ Pot mh' p ∧ Fr p mh mh' := by
    intro c
    have b1 := Int.emod_nonneg (c % 2147483549 * 40014 + 6733 * i + 1871) (b := 2147483563) (by decide)
    have b2 := Int.emod_lt_of_pos (c % 2147483549 * 40014 + 6733 * i + 1871) (b := 2147483563) (by decide)
    exact ⟨_, _, rfl, ⟨_, _, (by rw [List.getElem?_append_right (Nat.le_refl _), Nat.sub_self]; rfl), by split <;> omega, by omega, by omega⟩, Fr.app⟩
  by_cases h : (i : Int) < (ns.length : Int)
  · have hj : i < ns.length := by omega
    have hg : getM (ns.map MV.int) (i : Int) = some (.int ns[i]) := by rw [getM_nat]; simp [hj]
    simp only [lim, bodyR, seqS, setS, asgS, retS, retNS, exprS, ifS, passS, par2S, par3S, toS, bnd, op1D, op2D, opND, nilD, consD, varD, conD, boolD, truD, trM, andD, orD, notD, ifD, andV, orV, callD, callM, callKD, methAD, meth0D, pickA, isLstM, isStrM, isDctM, chainD, dispD, dnewD, pnilD, pconsD, ifB, sliceD, partD, noPartD, lft, tupG, nameG, consG, nilG, List.map_cons, List.map_nil, List.length_cons, List.length_nil, List.cons_append, List.nil_append, List.append_nil, List.getElem?_cons_zero, List.getElem?_cons_succ, List.set_cons_zero, List.set_cons_succ, List.replicate, Nat.beq_eq, Nat.ble_eq, Nat.blt_eq, Nat.reduceLT, Nat.reduceLeDiff, Int.reduceLT, Int.reduceLE, Int.reduceNeg, Int.reducePow, decide_true, decide_false, Bool.and_self, Bool.and_true, Bool.true_and, Bool.not_true, Bool.not_false, beq_self_eq_true, ite_true, ite_false, if_true, if_false, Nat.reduceAdd, Nat.reduceSub, Nat.zero_add, Bool.false_eq_true, reduceIte, ltM, h, lenN, lenM, List.length_map, ixM, hg, absN, powM, subM, max2N, intN, modM, mC, mulM, mB, addM, lstM, show (0:Int) ≤ 18 from by decide, show (18:Int) ≤ 1000000 from by decide, show Nat.blt (Int.natAbs 10) 18446744073709551616 = true from rfl, Int.toNat]
    exact fin _
  · simp only [lim, bodyR, seqS, setS, asgS, retS, retNS, exprS, ifS, passS, par2S, par3S, toS, bnd, op1D, op2D, opND, nilD, consD, varD, conD, boolD, truD, trM, andD, orD, notD, ifD, andV, orV, callD, callM, callKD, methAD, meth0D, pickA, isLstM, isStrM, isDctM, chainD, dispD, dnewD, pnilD, pconsD, ifB, sliceD, partD, noPartD, lft, tupG, nameG, consG, nilG, List.map_cons, List.map_nil, List.length_cons, List.length_nil, List.cons_append, List.nil_append, List.append_nil, List.getElem?_cons_zero, List.getElem?_cons_succ, List.set_cons_zero, List.set_cons_succ, List.replicate, Nat.beq_eq, Nat.ble_eq, Nat.blt_eq, Nat.reduceLT, Nat.reduceLeDiff, Int.reduceLT, Int.reduceLE, Int.reduceNeg, Int.reducePow, decide_true, decide_false, Bool.and_self, Bool.and_true, Bool.true_and, Bool.not_true, Bool.not_false, beq_self_eq_true, ite_true, ite_false, if_true, if_false, Nat.reduceAdd, Nat.reduceSub, Nat.zero_add, Bool.false_eq_true, reduceIte, ltM, h, lenN, lenM, List.length_map, powM, subM, max2N, intN, modM, mA, mC, mulM, mB, addM, lstM, show Nat.blt (Int.natAbs 10) 18446744073709551616 = true from rfl, Int.toNat]
    exact fin _
end K23
end L2
end
section
/-! K23D: books. -/
namespace L2
namespace K23
open PySem PySem.Spec PyProof.Rows L2.Vf
set_option hygiene false
local macro_rules | `(tactic| walk_at "hget") => `(tactic| first | assumption | exact get_new _ _ | (refine get_old ?_; first | assumption | exact get_new _ _ | (refine get_old ?_; first | assumption | exact get_new _ _ | (refine get_old ?_; first | assumption | exact get_new _ _))))
local macro_rules | `(tactic| walk_at "pre") => `(tactic| first | assumption | exact Pre.refl | exact Pre.app _ | (refine Pre.snoc ?_ _; first | assumption | exact Pre.refl | exact Pre.app _ | (refine Pre.snoc ?_ _; first | assumption | exact Pre.refl | exact Pre.app _)))
local macro_rules | `(tactic| walk_at "ev1") => `(tactic| first
  | (with_reducible refine Os_seqC ?_; intro N' hN') | simp only [↓eqB_, ↓eqI_, ↓eqT_, ↓eqV_, ↓eqM_, ↓eqH_, ↓eqNt, ↓eqNf, ↓eqNs, ↓eqCt, ↓eqCf, ↓eqCn, ↓eqOp, ↓okE_ok, ↓okE_var, ↓okE_con, ↓okE_op1, ↓okE_op2, ↓okE_opN, ↓okE_nil, ↓okE_cons, ↓okE_if, ↓okE_andV, ↓okE_orV, ↓okE_notV, ↓okE_chain, ↓okE_bool, ↓okE_tru, ↓okE_and, ↓okE_or, ↓okE_not, ↓okE_ifB, ↓okE_yes, ↓okE_call, ↓okE_callK, ↓okE_meth, ↓okE_meth0, ↓okE_noPart, ↓okE_part, ↓okE_slice, ↓okE_any, ↓okE_rng1, ↓okE_lc, ↓okE_dnew, ↓okE_pnil, ↓okE_pcons, ↓osE_expr, ↓osE_set, ↓osE_ret, ↓osE_retN, ↓osE_pass, ↓osE_if, ↓osE_asg, ↓osE_sub, ↓okE_disp, ↓osE_name, ↓osE_nilG, ↓osE_consGn, ↓osE_tupT, ↓osE_tupP, ↓osE_par2, ↓osE_par3, ↓osE_for, ↓osE_while, p_isi_non1, p_isi_non2, p_isi_non3, p_isi_non4, p_isi_non5, p_isi_non6, p_isi_bl1, p_isi_bl2, p_isi_bl3, p_isi_bl4, p_isi_bl5, p_isi_bl6, p_isi_int1, p_isi_int2, p_isi_int3, p_isi_int4, p_isi_int5, p_isi_int6, p_isi_str1, p_isi_str2, p_isi_str3, p_isi_str4, p_isi_str5, p_isi_str6, p_isi_tup1, p_isi_tup2, p_isi_tup3, p_isi_tup4, p_isi_tup5, p_isi_tup6, p_isi_fl1, p_isi_fl2, p_isi_fl3, p_isi_fl4, p_isi_fl5, p_isi_fl6, p_ix0, p_ix1, p_ix2, p_ix3, p_ix4, p_ix5, p_ix6, p_ix7, p_lenT, p_lt, p_le, p_gt, p_ge, p_eqI, p_neI, p_eqS, p_neS, p_add, p_sub, p_is_non, p_isnot_non, p_is_bl, p_isnot_bl, p_is_int, p_isnot_int, p_is_str, p_isnot_str, p_is_tup, p_isnot_tup, p_is_fl, p_isnot_fl, p_is_loc, p_isnot_loc, p_trB, p_trN, p_trT0, p_trT, p_tup0, p_lst0, p_tup1, p_lst1, p_tup2, p_lst2, p_tup3, p_lst3, p_tup4, p_lst4, p_tup5, p_lst5, p_tup6, p_lst6, p_tup7, p_lst7, p_tup8, p_lst8, p_int, p_abs, v0, wipeE, List.length_cons, List.length_nil, List.length_map, List.map_cons, List.map_nil, List.cons_append, List.nil_append, List.replicate, List.getElem?_cons_succ, List.getElem?_cons_zero, List.set_cons_zero, List.set_cons_succ, Nat.reduceAdd, Nat.reduceSub, Int.cast_ofNat_Int, Int.reduceEq, Int.reduceLE, Int.reduceLT, Int.reduceAdd, Int.reduceSub, Int.reduceNeg, Nat.reduceEqDiff, decide_true, decide_false, Bool.not_true, Bool.not_false, true_and, and_true, and_self, g_BOOK, g_FUNCTION, g_WORD, g_LINK, g_KINDS, g_VAL, g_NEXT, g_LEAST_WIDTH, g_MOST_WIDTH, g_MOST_DEPTH, g_MOST_ROOM, g_MOST_FUNCTIONS, g_MOST_PARAMS, g_MOST_NAMES, g_MOST_BOOK_ROWS, g_MOST_TERM_DEEP, g_MOST_TITLE, kw_row_ways_0, kw_called_by_0, kw_reached_rows_0, kw_frames_wanted_0]
  | ((with_reducible show Cd _ _ _); first | refine Cd_pos rfl ?_ | refine Cd_neg rfl ?_ | refine Cd_pos (decide_eq_true (by omega)) ?_ | refine Cd_neg (decide_eq_false (by omega)) ?_ | refine Cd_pos (by assumption) ?_ | refine Cd_neg (by assumption) ?_)
  | ((with_reducible show Op _ _); first | with_reducible refine Op_ixT (by assumption) ?_ | ((with_reducible show Op (ixM (.loc _) _ _) _); refine Op_ix (by walk_at "hget") (by assumption) ?_) | ((with_reducible show Op (getDM (.loc _) _ _) _); first | refine Op_getS (by walk_at "hget") rfl rfl ?_ | refine Op_getN (by walk_at "hget") rfl rfl ?_) | ((with_reducible show Op (inM (.str _) _ _) _); refine Op_inTup (xs := _) rfl rfl rfl rfl ?_) | ((with_reducible show Op (notinM (.str _) _ _) _); refine Op_notinTup (xs := _) rfl rfl rfl rfl ?_) | refine Op_mk rfl ?_)
  | ((with_reducible refine hN' _ _ ?_); clear hN') | (clear hN'; (with_reducible refine hN' _ _ ?_); clear hN') | (clear hN'; clear hN'; (with_reducible refine hN' _ _ ?_); clear hN') | ((with_reducible show Q _ _); first | exact q | refine q _ ?_ | refine q _ _ ?_ ?_ ?_ | refine q _ _ ?_ ?_)
  | ((with_reducible show Pre _ _); walk_at "pre") | ((with_reducible show ON _ _ _); refine ON_l (by walk_at "hget") ?_) | ((with_reducible show OM _ _); first | refine OM_l (by walk_at "hget") ?_ | refine OM_d (by walk_at "hget") ?_) | ((with_reducible show (_ = _ ∧ _ = _ ∧ _ = _) ∧ _); refine ⟨⟨rfl, rfl, rfl⟩, ?_⟩)
  | ((with_reducible show ∃ _, _ = _ ∧ _); refine ⟨_, rfl, ?_⟩))
local macro_rules | `(tactic| walk_at "ev") => `(tactic| repeat walk_at "ev1")
variable {F k : Nat} {mh : MH} {Q : MV → MH → Prop}
/-! ### small checks -/
theorem o_is_integer {i : Int} (q : Q (.bl true) mh) : Ok (rp F (k + 1) i_is_integer [.int i] mh) Q := by
  refine r_is_integer rfl ?_
  unfold d_is_integer
  walk_at "ev"
theorem o_is_within {i a b : Int} (h1 : a ≤ i) (h2 : i ≤ b) (q : Q (.bl true) mh) : Ok (rp F (k + 2) i_is_within [.int i, .int a, .int b] mh) Q := by
  refine r_is_within rfl ?_
  unfold d_is_within
  walk_at "ev"
  with_reducible apply o_is_integer
  walk_at "ev"
  rw [decide_eq_true h2]
  exact q
theorem o_is_tuple {xs : List MV} {n : Int} {b : Bool} (h : decide ((xs.length : Int) = n) = b) (q : Q (.bl b) mh) : Ok (rp F (k + 1) i_is_tuple [.tup xs, .int n] mh) Q := by
  refine r_is_tuple rfl ?_
  unfold d_is_tuple
  walk_at "ev"
  subst h
  exact q
theorem o_is_kind {s : List Nat} (h : s = [119, 111, 114, 100] ∨ s = [108, 105, 110, 107]) (q : Q (.bl true) mh) : Ok (rp F (k + 1) i_is_kind [.str s] mh) Q := by
  refine r_is_kind rfl ?_
  unfold d_is_kind
  rcases h with rfl | rfl
  · walk_at "ev"
  · walk_at "ev"
def smalls : List Nat := [97, 98, 99, 100, 101, 102, 103, 104, 105, 106, 107, 108, 109, 110, 111, 112, 113, 114, 115, 116, 117, 118, 119, 120, 121, 122]
def signs : List Nat := [97, 98, 99, 100, 101, 102, 103, 104, 105, 106, 107, 108, 109, 110, 111, 112, 113, 114, 115, 116, 117, 118, 119, 120, 121, 122, 48, 49, 50, 51, 52, 53, 54, 55, 56, 57]
theorem nxtS_at (cs : List Nat) (i : Nat) (h : MH) : nxtS cs i h = some ((cs.map fun c => MV.str [c])[i]?) := by
  unfold nxtS
  rw [List.getElem?_map]
  cases cs[i]? <;> rfl
theorem allB_true' {α : Type} (xs : List α) : allB (xs.map fun _ => .bl true) = some true := by
  rw [allB_map (fun _ => true)]; simp
theorem o_is_title {c : Nat} {cs : List Nat} (h1 : cs.length < 20) (h2 : memL c smalls = true) (h3 : ∀ x ∈ c :: cs, memL x signs = true) (hF : 30 ≤ F) (q : ∀ h, Pre mh h → Q (.bl true) h) : Ok (rp F (k + 1) i_is_title [.str (c :: cs)] mh) Q := by
  refine r_is_title rfl ?_
  unfold d_is_title
  have hb : Nat.ble (c :: cs).length lim = true := by rw [Nat.ble_eq]; show cs.length + 1 ≤ 16777216; omega
  have e1 : ∀ h, lenN [.str (c :: cs)] h = some (.int (cs.length + 1 : Nat), h) := fun h => by
    unfold lenN lenM
    dsimp only
    rw [if_pos hb]
    rfl
  have e2 : ∀ h, ixM (.str (c :: cs)) (.int 0) h = some (.str [c], h) := fun h => by
    show (if Nat.ble (c :: cs).length lim = true then some (MV.str [c], h) else none) = _
    rw [if_pos hb]
  walk_at "ev"
  rw [e1]
  walk_at "ev"
  rw [e2]
  walk_at "ev"
  obtain ⟨m, e, p⟩ := lc_map (nxt := nxtS (c :: cs)) (g := nameG 1) (te := ce_is_title_0) (rt := ⟨rp F k, F⟩) (env := wipeE (List.map some [MV.str (c :: cs)] ++ List.replicate 1 none) [1]) (mh := mh) (xs := (c :: cs).map fun c => MV.str [c]) (F := F) (fun _ => .bl true)
    (by simp; omega) (by simp; omega) (fun h _ i => nxtS_at _ i h) (fun x hx h hp => by
      obtain ⟨y, hy, rfl⟩ := List.mem_map.mp hx
      refine ⟨_, rfl, ?_⟩
      unfold ce_is_title_0
      walk_at "ev"
      exact ⟨congrArg MV.bl (h3 y hy), .refl⟩)
  refine ⟨_, _, e, ?_⟩
  walk_at "ev"
  exact Op_all (get_new _ _) (allB_true' ((c :: cs).map fun c => MV.str [c])) (q _ (p.snoc _))
theorem o_worded {w0 w : List Nat} {xs : List MV} {n : Int} {b : Bool} (h : (decide (((xs.length + 1 : Nat) : Int) = n) && beqL w0 w) = b) (q : Q (.bl b) mh) : Ok (rp F (k + 2) i_is_worded_row [.tup (.str w0 :: xs), .str w, .int n] mh) Q := by
  refine r_is_worded_row rfl ?_
  unfold d_is_worded_row
  walk_at "ev"
  refine o_is_tuple rfl ?_
  subst h
  cases e : decide (((xs.length + 1 : Nat) : Int) = n) with
  | false =>
    rw [e] at q
    walk_at "ev"
  | true =>
    rw [e] at q
    walk_at "ev"
end K23
end L2
end
section
/-! K23E: terms, rows. -/
namespace L2
namespace K23
open PySem PySem.Spec PyProof.Rows L2.Vf
set_option hygiene false
local macro_rules | `(tactic| walk_at "hget") => `(tactic| first | assumption | exact get_new _ _ | (refine get_old ?_; first | assumption | exact get_new _ _ | (refine get_old ?_; first | assumption | exact get_new _ _ | (refine get_old ?_; first | assumption | exact get_new _ _))))
local macro_rules | `(tactic| walk_at "pre") => `(tactic| first | assumption | exact Pre.refl | exact Pre.app _ | (refine Pre.snoc ?_ _; first | assumption | exact Pre.refl | exact Pre.app _ | (refine Pre.snoc ?_ _; first | assumption | exact Pre.refl | exact Pre.app _)))
local macro_rules | `(tactic| walk_at "ev1") => `(tactic| first
  | (with_reducible refine Os_seqC ?_; intro N' hN') | simp only [↓eqB_, ↓eqI_, ↓eqT_, ↓eqV_, ↓eqM_, ↓eqH_, ↓eqNt, ↓eqNf, ↓eqNs, ↓eqCt, ↓eqCf, ↓eqCn, ↓eqOp, ↓okE_ok, ↓okE_var, ↓okE_con, ↓okE_op1, ↓okE_op2, ↓okE_opN, ↓okE_nil, ↓okE_cons, ↓okE_if, ↓okE_andV, ↓okE_orV, ↓okE_notV, ↓okE_chain, ↓okE_bool, ↓okE_tru, ↓okE_and, ↓okE_or, ↓okE_not, ↓okE_ifB, ↓okE_yes, ↓okE_call, ↓okE_callK, ↓okE_meth, ↓okE_meth0, ↓okE_noPart, ↓okE_part, ↓okE_slice, ↓okE_any, ↓okE_rng1, ↓okE_lc, ↓okE_dnew, ↓okE_pnil, ↓okE_pcons, ↓osE_expr, ↓osE_set, ↓osE_ret, ↓osE_retN, ↓osE_pass, ↓osE_if, ↓osE_asg, ↓osE_sub, ↓okE_disp, ↓osE_name, ↓osE_nilG, ↓osE_consGn, ↓osE_tupT, ↓osE_tupP, ↓osE_par2, ↓osE_par3, ↓osE_for, ↓osE_while, p_isi_non1, p_isi_non2, p_isi_non3, p_isi_non4, p_isi_non5, p_isi_non6, p_isi_bl1, p_isi_bl2, p_isi_bl3, p_isi_bl4, p_isi_bl5, p_isi_bl6, p_isi_int1, p_isi_int2, p_isi_int3, p_isi_int4, p_isi_int5, p_isi_int6, p_isi_str1, p_isi_str2, p_isi_str3, p_isi_str4, p_isi_str5, p_isi_str6, p_isi_tup1, p_isi_tup2, p_isi_tup3, p_isi_tup4, p_isi_tup5, p_isi_tup6, p_isi_fl1, p_isi_fl2, p_isi_fl3, p_isi_fl4, p_isi_fl5, p_isi_fl6, p_ix0, p_ix1, p_ix2, p_ix3, p_ix4, p_ix5, p_ix6, p_ix7, p_lenT, p_lt, p_le, p_gt, p_ge, p_eqI, p_neI, p_eqS, p_neS, p_add, p_sub, p_is_non, p_isnot_non, p_is_bl, p_isnot_bl, p_is_int, p_isnot_int, p_is_str, p_isnot_str, p_is_tup, p_isnot_tup, p_is_fl, p_isnot_fl, p_is_loc, p_isnot_loc, p_trB, p_trN, p_trT0, p_trT, p_tup0, p_lst0, p_tup1, p_lst1, p_tup2, p_lst2, p_tup3, p_lst3, p_tup4, p_lst4, p_tup5, p_lst5, p_tup6, p_lst6, p_tup7, p_lst7, p_tup8, p_lst8, p_int, p_abs, v0, wipeE, List.length_cons, List.length_nil, List.length_map, List.map_cons, List.map_nil, List.cons_append, List.nil_append, List.replicate, List.getElem?_cons_succ, List.getElem?_cons_zero, List.set_cons_zero, List.set_cons_succ, Nat.reduceAdd, Nat.reduceSub, Int.cast_ofNat_Int, Int.reduceEq, Int.reduceLE, Int.reduceLT, Int.reduceAdd, Int.reduceSub, Int.reduceNeg, Nat.reduceEqDiff, decide_true, decide_false, Bool.not_true, Bool.not_false, true_and, and_true, and_self, g_BOOK, g_FUNCTION, g_WORD, g_LINK, g_KINDS, g_VAL, g_NEXT, g_LEAST_WIDTH, g_MOST_WIDTH, g_MOST_DEPTH, g_MOST_ROOM, g_MOST_FUNCTIONS, g_MOST_PARAMS, g_MOST_NAMES, g_MOST_BOOK_ROWS, g_MOST_TERM_DEEP, g_MOST_TITLE, kw_row_ways_0, kw_called_by_0, kw_reached_rows_0, kw_frames_wanted_0]
  | ((with_reducible show Cd _ _ _); first | refine Cd_pos rfl ?_ | refine Cd_neg rfl ?_ | refine Cd_pos (decide_eq_true (by omega)) ?_ | refine Cd_neg (decide_eq_false (by omega)) ?_ | refine Cd_pos (by assumption) ?_ | refine Cd_neg (by assumption) ?_)
  | ((with_reducible show Op _ _); first | with_reducible refine Op_ixT (by assumption) ?_ | ((with_reducible show Op (ixM (.loc _) _ _) _); refine Op_ix (by walk_at "hget") (by assumption) ?_) | ((with_reducible show Op (getDM (.loc _) _ _) _); first | refine Op_getS (by walk_at "hget") rfl rfl ?_ | refine Op_getN (by walk_at "hget") rfl rfl ?_) | ((with_reducible show Op (inM (.str _) _ _) _); refine Op_inTup (xs := _) rfl rfl rfl rfl ?_) | ((with_reducible show Op (notinM (.str _) _ _) _); refine Op_notinTup (xs := _) rfl rfl rfl rfl ?_) | refine Op_mk rfl ?_)
  | ((with_reducible refine hN' _ _ ?_); clear hN') | (clear hN'; (with_reducible refine hN' _ _ ?_); clear hN') | (clear hN'; clear hN'; (with_reducible refine hN' _ _ ?_); clear hN') | ((with_reducible show Q _ _); first | exact q | refine q _ ?_ | refine q _ _ ?_ ?_ ?_ | refine q _ _ ?_ ?_)
  | ((with_reducible show Pre _ _); walk_at "pre") | ((with_reducible show ON _ _ _); refine ON_l (by walk_at "hget") ?_) | ((with_reducible show OM _ _); first | refine OM_l (by walk_at "hget") ?_ | refine OM_d (by walk_at "hget") ?_) | ((with_reducible show (_ = _ ∧ _ = _ ∧ _ = _) ∧ _); refine ⟨⟨rfl, rfl, rfl⟩, ?_⟩)
  | ((with_reducible show ∃ _, _ = _ ∧ _); refine ⟨_, rfl, ?_⟩))
local macro_rules | `(tactic| walk_at "ev") => `(tactic| repeat walk_at "ev1")
local macro_rules | `(tactic| walk_at "ev1") => `(tactic| ((with_reducible show Ok (rp _ _ _ _ _) _); first | with_reducible refine o_is_integer ?_ | with_reducible refine o_is_within (by omega) (by omega) ?_ | ((with_reducible show Ok (rp _ _ i_is_tuple _ _) _); refine o_is_tuple rfl ?_) | ((with_reducible show Ok (rp _ _ i_is_kind _ _) _); refine o_is_kind (by first | exact .inl rfl | exact .inr rfl) ?_) | ((with_reducible show Ok (rp _ _ i_is_worded_row _ _) _); refine o_worded rfl ?_) | ((with_reducible show Ok (rp _ _ i_is_named _ _) _); refine r_is_named rfl ?_; unfold d_is_named) | ((with_reducible show Ok (rp _ _ i_rows_of_function _ _) _); refine r_rows_of_function rfl ?_; unfold d_rows_of_function)))
variable {F k : Nat} {mh : MH} {Q : MV → MH → Prop}
abbrev w_word : List Nat := [119, 111, 114, 100]
abbrev w_link : List Nat := [108, 105, 110, 107]
abbrev w_name : List Nat := [110, 97, 109, 101]
abbrev w_same : List Nat := [115, 97, 109, 101]
abbrev w_nil : List Nat := [110, 105, 108]
/-- the kinds of the names of each function -/
abbrev kv0 : List (MV × MV) := [(.str [120], .str w_word), (.str [107], .str w_link)]
abbrev tName (x : List Nat) : MV := .tup [.str w_name, .str x]
abbrev tWord0 : MV := .tup [.str w_word, .int 0]
abbrev tNil : MV := .tup [.str w_nil]
abbrev tSame : MV := .tup [.str w_same, tNil, tNil]
theorem ne_name (x : List Nat) (h : okS x = true) (mh : MH) : eqM (tName x) (.tup []) mh = some (.bl false, mh) := by
  unfold eqM
  rw [eqB_dat (v := tName x) (u := .tup []) rfl (Dat.tup (.cons (.str _) (.cons (.str _) .nil))) (Dat.tup (.nil (k := 0))) (by omega) (by omega) (by
    have := okS_lay h
    have h2 : PyData.strOk (S w_name) = true := okS_lay rfl
    simp [SeqAt.shaped, PyData.canLay0, PyData.canLayAll0, PyData.depth, PyData.depthAll, this, h2]) (by simp [SeqAt.shaped, PyData.canLay0, PyData.canLayAll0, PyData.depth, PyData.depthAll])]
  simp [PyData.eqv, PyData.eqvAll]
theorem ne_word (mh : MH) : eqM tWord0 (.tup []) mh = some (.bl false, mh) := by kernel_rfl
theorem ne_nil (mh : MH) : eqM tNil (.tup []) mh = some (.bl false, mh) := by kernel_rfl
theorem ne_same (mh : MH) : eqM tSame (.tup []) mh = some (.bl false, mh) := by kernel_rfl
local macro_rules | `(tactic| walk_at "ev1") => `(tactic| ((with_reducible show Op (eqM _ (.tup []) _) _); first | refine Op_same (ne_word _) ?_ | refine Op_same (ne_nil _) ?_ | refine Op_same (ne_same _) ?_ | refine Op_same (ne_name _ rfl _) ?_))
theorem o_tName {n : Nat} {x : List Nat} {v : MV} {w d : Int} (hd : 1 ≤ d) (e : mh[n]? = some (.dct kv0)) (hx : okS x = true) (hv : (dfind kv0 (.str x)).getD .non = v) (q : Q v mh) : Ok (rp F (k + 1) i_term_kind [.int w, .loc n, tName x, .int d] mh) Q := by
  refine r_term_kind rfl ?_
  unfold d_term_kind
  walk_at "ev"
  refine Op_same (ne_name _ hx _) ?_
  walk_at "ev"
  exact Op_getD e rfl hv q
theorem o_tWord {n : Nat} {w d : Int} (hd : 1 ≤ d) (hw : 1 ≤ w) (q : Q (.str w_word) mh) : Ok (rp F (k + 3) i_term_kind [.int w, .loc n, tWord0, .int d] mh) Q := by
  refine r_term_kind rfl ?_
  unfold d_term_kind
  walk_at "ev"
theorem o_tNil {n : Nat} {w d : Int} (hd : 1 ≤ d) (q : Q (.str w_link) mh) : Ok (rp F (k + 3) i_term_kind [.int w, .loc n, tNil, .int d] mh) Q := by
  refine r_term_kind rfl ?_
  unfold d_term_kind
  walk_at "ev"
theorem o_tSame {n : Nat} {w d : Int} (hd : 2 ≤ d) (hF : 10 ≤ F) (q : ∀ h, Pre mh h → Q (.str w_word) h) : Ok (rp F (k + 4) i_term_kind [.int w, .loc n, tSame, .int d] mh) Q := by
  refine r_term_kind rfl ?_
  unfold d_term_kind
  walk_at "ev"
  obtain ⟨m, e, p⟩ := lc_map (nxt := nxtX (cutG [MV.str w_same, tNil, tNil] (some 1) none)) (g := nameG 6) (te := ce_term_kind_0) (rt := ⟨rp F (k + 3), F⟩) (env := wipeE (List.map some [MV.int w, MV.loc n, tSame, MV.int d] ++ List.replicate 3 none) [6]) (mh := mh) (xs := [tNil, tNil]) (F := F) (fun _ => .str w_link)
    (by decide) (by show 2 < F; omega) (fun h _ i => rfl) (fun x hx h hp => by
      refine ⟨_, rfl, ?_⟩
      obtain rfl : x = tNil := by simpa using hx
      unfold ce_term_kind_0
      walk_at "ev"
      refine o_tNil (by omega) ?_
      exact ⟨rfl, .refl⟩)
  refine ⟨_, _, e, ?_⟩
  refine Os_tupL (get_new _ _) rfl ?_
  walk_at "ev"
/-! ### the data of books -/
inductive Rw where
  | test (t : MV) (n : Nat) | call (f : Nat) | go (n : Nat) | ret (t : MV) | oth (t : MV)
abbrev w_test : List Nat := [116, 101, 115, 116]
abbrev w_call : List Nat := [99, 97, 108, 108]
abbrev w_go : List Nat := [103, 111]
abbrev w_return : List Nat := [114, 101, 116, 117, 114, 110]
abbrev w_function : List Nat := [102, 117, 110, 99, 116, 105, 111, 110]
abbrev w_book : List Nat := [98, 111, 111, 107]
abbrev w_ask : List Nat := [97, 115, 107]
abbrev w_out : List Nat := [111, 117, 116]
abbrev w_new : List Nat := [110, 101, 119]
abbrev w_put : List Nat := [112, 117, 116]
abbrev w_next : List Nat := [110, 101, 120, 116]
abbrev cX : List Nat := [120]
abbrev cK : List Nat := [107]
abbrev tests : List MV := [tName cX, tWord0, tSame]
abbrev rets : List MV := [tName cX, tWord0]
abbrev oths : List MV := [.tup [.str w_ask, .str cX], .tup [.str w_out, tName cX], .tup [.str w_new, .str cK], .tup [.str w_put, .str cK, .str w_next, tName cK]]
def encR : Rw → MV
  | .test t n => .tup [.str w_test, t, .int n]
  | .call f => .tup [.str w_call, .str cX, .int f, .tup []]
  | .go n => .tup [.str w_go, .int n]
  | .ret t => .tup [.str w_return, t]
  | .oth t => t
def RwOk (nf len : Nat) : Rw → Prop
  | .test t n => t ∈ tests ∧ n < len
  | .call f => f < nf
  | .go n => n < len
  | .ret t => t ∈ rets
  | .oth t => t ∈ oths
def isEnd : Rw → Bool
  | .go _ => true
  | .ret _ => true
  | _ => false
abbrev namesM : MV := .tup [.tup [.str cX, .str w_word], .tup [.str cK, .str w_link]]
def encF (a : Nat) (rows : List Rw) : MV := .tup [.str w_function, .str [102, 48 + a], .int 0, namesM, .str w_word, .tup (rows.map encR)]
def encFs : Nat → List (List Rw) → List MV
  | _, [] => []
  | a, f :: r => encF a f :: encFs (a + 1) r
abbrev encB (d r : Nat) (fns : List (List Rw)) : MV := .tup [.str w_book, .int 2, .int d, .int r, .tup (encFs 0 fns)]
structure FnOk (nf : Nat) (rows : List Rw) : Prop where
  le : rows.length ≤ 12
  rw_ : ∀ r ∈ rows, RwOk nf rows.length r
  last : ∃ ini l, rows = ini ++ [l] ∧ isEnd l = true
structure BkOk (d r : Nat) (fns : List (List Rw)) : Prop where
  d1 : 1 ≤ d
  d4 : d ≤ 4
  r4 : r ≤ 4
  f1 : 1 ≤ fns.length
  f6 : fns.length ≤ 6
  fn : ∀ f ∈ fns, FnOk fns.length f
theorem encFs_get : ∀ (fns : List (List Rw)) (a i : Nat), (encFs a fns)[i]? = fns[i]?.map (encF (a + i))
  | [], a, i => by simp [encFs]
  | f :: r, a, 0 => by simp [encFs]
  | f :: r, a, i + 1 => by
    rw [encFs, List.getElem?_cons_succ, List.getElem?_cons_succ, encFs_get r (a + 1) i, Nat.add_assoc, Nat.add_comm 1 i]
theorem encFs_len : ∀ (fns : List (List Rw)) (a : Nat), (encFs a fns).length = fns.length
  | [], a => rfl
  | f :: r, a => by rw [encFs, List.length_cons, encFs_len r (a + 1), List.length_cons]
theorem fn_get {fns : List (List Rw)} {f : Nat} {rows : List Rw} (h : fns[f]? = some rows) : (encFs 0 fns)[f]? = some (encF f rows) := by
  rw [encFs_get, h, Nat.zero_add]; rfl
/-! ### a row of a function -/
local macro_rules | `(tactic| walk_at "ev1") => `(tactic| simp only [encF])
section
variable {d r f n : Nat} {fns : List (List Rw)} {rows : List Rw}
theorem o_tTest {n : Nat} {t : MV} (ht : t ∈ tests) (e : mh[n]? = some (.dct kv0)) (hF : 10 ≤ F) (q : ∀ h, Pre mh h → Q (.str w_word) h) : Ok (rp F (k + 4) i_term_kind [.int 2, .loc n, t, .int 4] mh) Q := by
  rcases List.mem_cons.mp ht with rfl | ht
  · exact o_tName (by decide) e rfl rfl (q _ .refl)
  rcases List.mem_cons.mp ht with rfl | ht
  · exact o_tWord (by decide) (by decide) (q _ .refl)
  rcases List.mem_cons.mp ht with rfl | ht
  · exact o_tSame (by decide) hF q
  cases ht
theorem o_is_call_row {g : Nat} {rg : List Rw} (hg : fns[g]? = some rg) (e : mh[n]? = some (.dct kv0)) (hF : 20 ≤ F) (q : ∀ h, Pre mh h → Q (.bl true) h) : Ok (rp F (k + 5) i_is_call_row [encB d r fns, .loc n, encR (.call g)] mh) Q := by
  refine r_is_call_row rfl ?_
  unfold d_is_call_row encR
  have e3 := fn_get hg
  have hl := encFs_len fns 0
  have hlt : g < fns.length := (List.getElem?_eq_some_iff.mp hg).1
  walk_at "ev"
  refine ⟨_, _, lc_nil (by omega), ?_⟩
  walk_at "ev"
  refine ⟨_, _, lc_nil (by omega), ?_⟩
  refine Op_eqEmpty (ns := []) (get_old (get_new _ _)) (get_new _ _) ?_
  exact q _ ((Pre.app _).snoc _)
theorem o_is_row_in {row : Rw} (hf : fns[f]? = some rows) (hr : RwOk fns.length rows.length row) (hfn : fns.length ≤ 6) (hF : 20 ≤ F) (q : ∀ h, Pre mh h → Q (.bl true) h) : Ok (rp F (k + 6) i_is_row_in [encB d r fns, .int f, encR row] mh) Q := by
  refine r_is_row_in rfl ?_
  unfold d_is_row_in
  have e := fn_get hf
  cases row with
  | go n =>
    have hr : n < rows.length := hr
    unfold encR
    walk_at "ev"
  | call g =>
    have hr : g < fns.length := hr
    unfold encR
    walk_at "ev"
    refine o_is_call_row (rg := fns[g]) (by simp) (get_new _ _) hF ?_
    intro h hp
    walk_at "ev"
    exact (Pre.app _).trans hp
  | test t n => 
    obtain ⟨ht, hn⟩ := (show t ∈ tests ∧ n < rows.length from hr)
    unfold encR
    walk_at "ev"
    refine o_tTest ht (get_new _ _) (by omega) ?_
    intro h hp
    walk_at "ev"
    exact (Pre.app _).trans hp
  | ret t =>
    have ht : t ∈ rets := hr
    unfold encR
    walk_at "ev"
    refine o_tTest (List.mem_append_left [tSame] ht |> fun h => by simpa using h) (get_new _ _) (by omega) ?_
    intro h hp
    walk_at "ev"
    exact (Pre.app _).trans hp
  | oth t =>
    have ht : t ∈ oths := hr
    unfold encR
    rcases List.mem_cons.mp ht with rfl | ht
    · walk_at "ev"
    rcases List.mem_cons.mp ht with rfl | ht
    · walk_at "ev"
      refine o_tName (by decide) (get_new _ _) rfl rfl ?_
      walk_at "ev"
    rcases List.mem_cons.mp ht with rfl | ht
    · walk_at "ev"
      refine r_is_call_row rfl ?_
      unfold d_is_call_row
      walk_at "ev"
      refine r_is_link_row rfl ?_
      unfold d_is_link_row
      walk_at "ev"
    rcases List.mem_cons.mp ht with rfl | ht
    · walk_at "ev"
      refine r_is_call_row rfl ?_
      unfold d_is_call_row
      walk_at "ev"
      refine r_is_link_row rfl ?_
      unfold d_is_link_row
      walk_at "ev"
      refine o_tName (by decide) (get_new _ _) rfl rfl ?_
      walk_at "ev"
    cases ht
end
end K23
end L2
end
section
/-! K23F: books are books. -/
namespace L2
namespace K23
open PySem PySem.Spec PyProof.Rows L2.Vf
set_option hygiene false
local macro_rules | `(tactic| walk_at "hget") => `(tactic| first | assumption | exact get_new _ _ | (refine get_old ?_; first | assumption | exact get_new _ _ | (refine get_old ?_; first | assumption | exact get_new _ _ | (refine get_old ?_; first | assumption | exact get_new _ _))))
local macro_rules | `(tactic| walk_at "pre") => `(tactic| first | assumption | exact Pre.refl | exact Pre.app _ | (refine Pre.snoc ?_ _; first | assumption | exact Pre.refl | exact Pre.app _ | (refine Pre.snoc ?_ _; first | assumption | exact Pre.refl | exact Pre.app _)))
local macro_rules | `(tactic| walk_at "ev1") => `(tactic| first
  | (with_reducible refine Os_seqC ?_; intro N' hN') | simp only [↓eqB_, ↓eqI_, ↓eqT_, ↓eqV_, ↓eqM_, ↓eqH_, ↓eqNt, ↓eqNf, ↓eqNs, ↓eqCt, ↓eqCf, ↓eqCn, ↓eqOp, ↓okE_ok, ↓okE_var, ↓okE_con, ↓okE_op1, ↓okE_op2, ↓okE_opN, ↓okE_nil, ↓okE_cons, ↓okE_if, ↓okE_andV, ↓okE_orV, ↓okE_notV, ↓okE_chain, ↓okE_bool, ↓okE_tru, ↓okE_and, ↓okE_or, ↓okE_not, ↓okE_ifB, ↓okE_yes, ↓okE_call, ↓okE_callK, ↓okE_meth, ↓okE_meth0, ↓okE_noPart, ↓okE_part, ↓okE_slice, ↓okE_any, ↓okE_rng1, ↓okE_lc, ↓okE_dnew, ↓okE_pnil, ↓okE_pcons, ↓osE_expr, ↓osE_set, ↓osE_ret, ↓osE_retN, ↓osE_pass, ↓osE_if, ↓osE_asg, ↓osE_sub, ↓okE_disp, ↓osE_name, ↓osE_nilG, ↓osE_consGn, ↓osE_tupT, ↓osE_tupP, ↓osE_par2, ↓osE_par3, ↓osE_for, ↓osE_while, p_isi_non1, p_isi_non2, p_isi_non3, p_isi_non4, p_isi_non5, p_isi_non6, p_isi_bl1, p_isi_bl2, p_isi_bl3, p_isi_bl4, p_isi_bl5, p_isi_bl6, p_isi_int1, p_isi_int2, p_isi_int3, p_isi_int4, p_isi_int5, p_isi_int6, p_isi_str1, p_isi_str2, p_isi_str3, p_isi_str4, p_isi_str5, p_isi_str6, p_isi_tup1, p_isi_tup2, p_isi_tup3, p_isi_tup4, p_isi_tup5, p_isi_tup6, p_isi_fl1, p_isi_fl2, p_isi_fl3, p_isi_fl4, p_isi_fl5, p_isi_fl6, p_ix0, p_ix1, p_ix2, p_ix3, p_ix4, p_ix5, p_ix6, p_ix7, p_lenT, p_lt, p_le, p_gt, p_ge, p_eqI, p_neI, p_eqS, p_neS, p_add, p_sub, p_is_non, p_isnot_non, p_is_bl, p_isnot_bl, p_is_int, p_isnot_int, p_is_str, p_isnot_str, p_is_tup, p_isnot_tup, p_is_fl, p_isnot_fl, p_is_loc, p_isnot_loc, p_trB, p_trN, p_trT0, p_trT, p_tup0, p_lst0, p_tup1, p_lst1, p_tup2, p_lst2, p_tup3, p_lst3, p_tup4, p_lst4, p_tup5, p_lst5, p_tup6, p_lst6, p_tup7, p_lst7, p_tup8, p_lst8, p_int, p_abs, v0, wipeE, List.length_cons, List.length_nil, List.length_map, List.map_cons, List.map_nil, List.cons_append, List.nil_append, List.replicate, List.getElem?_cons_succ, List.getElem?_cons_zero, List.set_cons_zero, List.set_cons_succ, Nat.reduceAdd, Nat.reduceSub, Int.cast_ofNat_Int, Int.reduceEq, Int.reduceLE, Int.reduceLT, Int.reduceAdd, Int.reduceSub, Int.reduceNeg, Nat.reduceEqDiff, decide_true, decide_false, Bool.not_true, Bool.not_false, true_and, and_true, and_self, g_BOOK, g_FUNCTION, g_WORD, g_LINK, g_KINDS, g_VAL, g_NEXT, g_LEAST_WIDTH, g_MOST_WIDTH, g_MOST_DEPTH, g_MOST_ROOM, g_MOST_FUNCTIONS, g_MOST_PARAMS, g_MOST_NAMES, g_MOST_BOOK_ROWS, g_MOST_TERM_DEEP, g_MOST_TITLE, kw_row_ways_0, kw_called_by_0, kw_reached_rows_0, kw_frames_wanted_0]
  | ((with_reducible show Cd _ _ _); first | refine Cd_pos rfl ?_ | refine Cd_neg rfl ?_ | refine Cd_pos (decide_eq_true (by omega)) ?_ | refine Cd_neg (decide_eq_false (by omega)) ?_ | refine Cd_pos (by assumption) ?_ | refine Cd_neg (by assumption) ?_)
  | ((with_reducible show Op _ _); first | with_reducible refine Op_ixT (by assumption) ?_ | ((with_reducible show Op (ixM (.loc _) _ _) _); refine Op_ix (by walk_at "hget") (by assumption) ?_) | ((with_reducible show Op (getDM (.loc _) _ _) _); first | refine Op_getS (by walk_at "hget") rfl rfl ?_ | refine Op_getN (by walk_at "hget") rfl rfl ?_) | ((with_reducible show Op (inM (.str _) _ _) _); refine Op_inTup (xs := _) rfl rfl rfl rfl ?_) | ((with_reducible show Op (notinM (.str _) _ _) _); refine Op_notinTup (xs := _) rfl rfl rfl rfl ?_) | refine Op_mk rfl ?_)
  | ((with_reducible refine hN' _ _ ?_); clear hN') | (clear hN'; (with_reducible refine hN' _ _ ?_); clear hN') | (clear hN'; clear hN'; (with_reducible refine hN' _ _ ?_); clear hN') | ((with_reducible show Q _ _); first | exact q | refine q _ ?_ | refine q _ _ ?_ ?_ ?_ | refine q _ _ ?_ ?_)
  | ((with_reducible show Pre _ _); walk_at "pre") | ((with_reducible show ON _ _ _); refine ON_l (by walk_at "hget") ?_) | ((with_reducible show OM _ _); first | refine OM_l (by walk_at "hget") ?_ | refine OM_d (by walk_at "hget") ?_) | ((with_reducible show (_ = _ ∧ _ = _ ∧ _ = _) ∧ _); refine ⟨⟨rfl, rfl, rfl⟩, ?_⟩)
  | ((with_reducible show ∃ _, _ = _ ∧ _); refine ⟨_, rfl, ?_⟩))
local macro_rules | `(tactic| walk_at "ev") => `(tactic| repeat walk_at "ev1")
local macro_rules | `(tactic| walk_at "ev1") => `(tactic| ((with_reducible show Ok (rp _ _ _ _ _) _); first | with_reducible refine o_is_integer ?_ | with_reducible refine o_is_within (by omega) (by omega) ?_ | ((with_reducible show Ok (rp _ _ i_is_tuple _ _) _); refine o_is_tuple rfl ?_) | ((with_reducible show Ok (rp _ _ i_is_kind _ _) _); refine o_is_kind (by first | exact .inl rfl | exact .inr rfl) ?_) | ((with_reducible show Ok (rp _ _ i_is_worded_row _ _) _); refine o_worded rfl ?_) | ((with_reducible show Ok (rp _ _ i_is_named _ _) _); refine r_is_named rfl ?_; unfold d_is_named) | ((with_reducible show Ok (rp _ _ i_rows_of_function _ _) _); refine r_rows_of_function rfl ?_; unfold d_rows_of_function)))
variable {F k : Nat} {mh : MH} {Q : MV → MH → Prop} {d r f n : Nat} {fns : List (List Rw)} {rows : List Rw}
theorem o_names (hF : 30 ≤ F) (q : ∀ h, Pre mh h → Q (.bl true) h) : Ok (rp F (k + 3) i_are_names_told [namesM] mh) Q := by
  refine r_are_names_told rfl ?_
  unfold d_are_names_told
  walk_at "ev"
  obtain ⟨m, e, p⟩ := lc_map (nxt := nxtX [.tup [.str cX, .str w_word], .tup [.str cK, .str w_link]]) (g := nameG 1) (te := ce_are_names_told_2) (rt := ⟨rp F (k + 2), F⟩) (env := wipeE [some namesM, none] [1]) (mh := mh) (xs := [.tup [.str cX, .str w_word], .tup [.str cK, .str w_link]]) (F := F) (fun _ => .bl true)
    (by decide) (by show 2 < F; omega) (fun h _ i => rfl) (fun x hx h hp => by
      refine ⟨_, rfl, ?_⟩
      unfold ce_are_names_told_2
      simp only [List.mem_cons, List.not_mem_nil, or_false] at hx
      rcases hx with rfl | rfl
      · walk_at "ev"
        all_goals exact ⟨rfl, .refl⟩
      · walk_at "ev"
        all_goals exact ⟨rfl, .refl⟩)
  refine ⟨_, _, e, ?_⟩
  walk_at "ev"
  refine Op_all (b := true) (get_new _ _) rfl ?_
  walk_at "ev"
  obtain ⟨m2, e2, p2⟩ := lc_map (nxt := nxtX [.tup [.str cX, .str w_word], .tup [.str cK, .str w_link]]) (g := nameG 1) (te := ce_are_names_told_1) (rt := ⟨rp F (k + 2), F⟩) (env := wipeE [some namesM, none] [1]) (mh := m ++ [.lst [.bl true, .bl true]]) (xs := [.tup [.str cX, .str w_word], .tup [.str cK, .str w_link]]) (F := F) (fun _ => .bl true)
    (by decide) (by show 2 < F; omega) (fun h _ i => rfl) (fun x hx h hp => by
      refine ⟨_, rfl, ?_⟩
      unfold ce_are_names_told_1
      simp only [List.mem_cons, List.not_mem_nil, or_false] at hx
      rcases hx with rfl | rfl
      · walk_at "ev"
        refine o_is_title (by decide) (by decide) (by decide) hF ?_
        intro h2 hp2
        walk_at "ev"
        all_goals exact hp2
      · walk_at "ev"
        refine o_is_title (by decide) (by decide) (by decide) hF ?_
        intro h2 hp2
        walk_at "ev"
        all_goals exact hp2)
  refine ⟨_, _, e2, ?_⟩
  walk_at "ev"
  refine Op_all (b := true) (get_new _ _) rfl ?_
  walk_at "ev"
  obtain ⟨m3, e3, p3⟩ := lc_map (nxt := nxtX [.tup [.str cX, .str w_word], .tup [.str cK, .str w_link]]) (g := nameG 1) (te := ce_are_names_told_0) (rt := ⟨rp F (k + 2), F⟩) (env := wipeE [some namesM, none] [1]) (mh := m2 ++ [.lst [.bl true, .bl true]]) (xs := [.tup [.str cX, .str w_word], .tup [.str cK, .str w_link]]) (F := F) (fun v => match v with
      | .tup (x :: _) => x
      | _ => .non)
    (by decide) (by show 2 < F; omega) (fun h _ i => rfl) (fun x hx h hp => by
      refine ⟨_, rfl, ?_⟩
      unfold ce_are_names_told_0
      simp only [List.mem_cons, List.not_mem_nil, or_false] at hx
      rcases hx with rfl | rfl
      · walk_at "ev"
        all_goals exact ⟨rfl, .refl⟩
      · walk_at "ev"
        all_goals exact ⟨rfl, .refl⟩)
  refine ⟨_, _, e3, ?_⟩
  walk_at "ev"
  refine Op_lenset (xs := [.str cX, .str cK]) (l := 2) (get_new _ _) rfl (by decide) rfl ?_
  walk_at "ev"
  exact ((p.snoc _).trans (p2.snoc _)).trans (p3.snoc _)
theorem o_is_head {a : Nat} (ha : a < 6) (h1 : 1 ≤ rows.length) (h2 : rows.length ≤ 12) (hF : 30 ≤ F) (q : ∀ h, Pre mh h → Q (.bl true) h) : Ok (rp F (k + 4) i_is_head_told [encF a rows] mh) Q := by
  refine r_is_head_told rfl ?_
  unfold d_is_head_told
  walk_at "ev"
  refine o_is_title (by show 1 < 20; decide) (by decide) (by
    have : a = 0 ∨ a = 1 ∨ a = 2 ∨ a = 3 ∨ a = 4 ∨ a = 5 := by omega
    rcases this with rfl | rfl | rfl | rfl | rfl | rfl <;> decide) hF ?_
  intro h hp
  walk_at "ev"
  refine o_names hF ?_
  intro h2 hp2
  walk_at "ev"
  rw [decide_eq_true (by omega)]
  exact q _ (hp.trans hp2)
def titles (n : Nat) : List MV := (List.range' 0 n).map fun i => .str [102, 48 + i]
theorem titles_ok : ∀ n, n ≤ 6 → keysM (titles n) = true ∧ (dedM [] (titles n)).length = n := by decide
def snd1 : MV → MV
  | .tup (_ :: x :: _) => x
  | _ => .non
theorem encFs_titles : ∀ (fns : List (List Rw)) (a : Nat), (encFs a fns).map snd1 = (List.range' a fns.length).map fun i => .str [102, 48 + i]
  | [], a => rfl
  | f :: r, a => by
    rw [encFs, List.map_cons, encFs_titles r (a + 1), List.length_cons, List.range'_succ, List.map_cons]
    rfl
theorem allB_true2 : ∀ xs : List MV, allB (xs.map fun _ => .bl true) = some true := allB_true'
theorem o_is_book_head (B : BkOk d r fns) (hF : 30 ≤ F) (q : ∀ h, Pre mh h → Q (.bl true) h) : Ok (rp F (k + 5) i_is_book_head [encB d r fns] mh) Q := by
  refine r_is_book_head rfl ?_
  unfold d_is_book_head
  have hl := encFs_len fns 0
  have := B.d1
  have := B.d4
  have := B.r4
  have := B.f1
  have := B.f6
  walk_at "ev"
  obtain ⟨m, e, p⟩ := lc_map (nxt := nxtX (encFs 0 fns)) (g := nameG 1) (te := ce_is_book_head_1) (rt := ⟨rp F (k + 4), F⟩) (env := wipeE [some (encB d r fns), none] [1]) (mh := mh) (xs := encFs 0 fns) (F := F) (fun _ => .bl true)
    (by omega) (by omega) (fun h _ i => rfl) (fun x hx h hp => by
      refine ⟨_, rfl, ?_⟩
      unfold ce_is_book_head_1
      obtain ⟨i, hi⟩ := List.getElem?_of_mem hx
      rw [encFs_get] at hi
      obtain ⟨rows, e1, e2⟩ := Option.map_eq_some_iff.mp hi
      subst e2
      have hlt := (List.getElem?_eq_some_iff.mp e1).1
      obtain ⟨l1, l2, ini, l, l3, l4⟩ := B.fn rows (List.mem_of_getElem? e1)
      walk_at "ev"
      refine o_is_head (by omega) (by rw [l3]; simp) l1 hF ?_
      intro h2 hp2
      exact ⟨rfl, hp2⟩)
  refine ⟨_, _, e, ?_⟩
  refine Op_all (b := true) (get_new _ _) (allB_true2 _) ?_
  walk_at "ev"
  obtain ⟨m2, e2, p2⟩ := lc_map (nxt := nxtX (encFs 0 fns)) (g := nameG 1) (te := ce_is_book_head_0) (rt := ⟨rp F (k + 4), F⟩) (env := wipeE [some (encB d r fns), none] [1]) (mh := m ++ [.lst ((encFs 0 fns).map fun _ => .bl true)]) (xs := encFs 0 fns) (F := F) snd1
    (by omega) (by omega) (fun h _ i => rfl) (fun x hx h hp => by
      refine ⟨_, rfl, ?_⟩
      unfold ce_is_book_head_0
      obtain ⟨i, hi⟩ := List.getElem?_of_mem hx
      rw [encFs_get] at hi
      obtain ⟨rows, e1, e2⟩ := Option.map_eq_some_iff.mp hi
      subst e2
      walk_at "ev"
      all_goals exact ⟨rfl, .refl⟩)
  refine ⟨_, _, e2, ?_⟩
  have t := titles_ok fns.length B.f6
  rw [encFs_titles, show ((List.range' 0 fns.length).map fun i => MV.str [102, 48 + i]) = titles fns.length from rfl]
  refine Op_lenset (get_new _ _) t.1 (by unfold titles; rw [List.length_map, List.length_range']; omega) t.2 ?_
  walk_at "ev"
  obtain ⟨rows, hr⟩ : ∃ rows, fns[0]? = some rows := ⟨fns[0]'(by omega), by simp [show 0 < fns.length from by omega]⟩
  have e0 := fn_get hr
  have e0' : ∀ h, ixM (.tup (encFs 0 fns)) (.int 0) h = some (encF 0 rows, h) := fun h => by
    show (match (encFs 0 fns)[0]? with
      | some v => some (v, h)
      | none => none) = _
    rw [e0]
  rw [e0']
  walk_at "ev"
  rw [e0']
  walk_at "ev"
  exact (p.snoc _).trans (p2.snoc _)
theorem nxtE_tup (xs : List MV) (i : Nat) (h : MH) : nxtE (.tup xs) i h = match xs[i]? with
    | some x => some (some (.pr [.int i, x]))
    | none => if Nat.beq xs.length i then some none else none := rfl
theorem o_is_book_any (B : BkOk d r fns) (hF : 30 ≤ F) (q : ∀ h, Pre mh h → Q (.bl true) h) : Ok (rp F (k + 7) i_is_book_any [encB d r fns] mh) Q := by
  refine r_is_book_any rfl ?_
  unfold d_is_book_any
  have hl := encFs_len fns 0
  have := B.f6
  walk_at "ev"
  refine o_is_book_head (k := k + 1) B hF ?_
  intro h hp
  walk_at "ev"
  refine Ok_enum ?_
  walk_at "ev"
  refine ⟨_, encFs 0 fns, rfl, rfl, ?_⟩
  refine Os_forL (fun i e h => Pre mh h ∧ ∃ a b c, e = [some (encB d r fns), a, b, c]) fns.length ?_ ?_ fns.length F 0 _ _ (by omega) (by omega) ⟨hp, _, _, _, rfl⟩
  · rintro i e h hi ⟨hp, a, b, c, rfl⟩
    have hg : fns[i]? = some fns[i] := by simp
    generalize fns[i] = rows at hg
    obtain ⟨l1, l2, ini, l, l3, l4⟩ := B.fn rows (List.mem_of_getElem? hg)
    refine ⟨.pr [.int i, encF i rows], by rw [nxtE_tup, fn_get hg], ?_⟩
    walk_at "ev"
    unfold fb_is_book_any_1
    walk_at "ev"
    obtain ⟨m, e, p⟩ := lc_map (nxt := nxtX (rows.map encR)) (g := nameG 3) (te := ce_is_book_any_0) (rt := ⟨rp F (k + 6), F⟩) (env := wipeE [some (encB d r fns), some (.int i), some (encF i rows), c] [3]) (mh := h) (xs := rows.map encR) (F := F) (fun _ => .bl true)
      (by simp; omega) (by simp; omega) (fun h _ i => rfl) (fun x hx h hp => by
        refine ⟨_, rfl, ?_⟩
        unfold ce_is_book_any_0
        obtain ⟨row, hrow, rfl⟩ := List.mem_map.mp hx
        walk_at "ev"
        refine o_is_row_in hg (l2 row hrow) (by omega) (by omega) ?_
        intro h2 hp2
        exact ⟨rfl, hp2⟩)
    refine ⟨_, _, e, ?_⟩
    refine Op_all (b := true) (get_new _ _) (allB_true2 _) ?_
    walk_at "ev"
    refine Op_ixLast (ys := ini.map encR) (v := encR l) (by rw [l3]; simp) ?_
    cases l with
    | go n =>
      unfold encR
      walk_at "ev"
      exact ⟨(hp.trans p).snoc _, _, _, _, rfl⟩
    | ret t =>
      unfold encR
      walk_at "ev"
      exact ⟨(hp.trans p).snoc _, _, _, _, rfl⟩
    | _ => cases l4
  · rintro e h ⟨hp, a, b, c, rfl⟩
    refine ⟨?_, ?_⟩
    · rw [nxtE_tup, List.getElem?_eq_none (by omega), hl, Nat.beq_refl]
      rfl
    · walk_at "ev"
theorem o_want_book (B : BkOk d r fns) (hF : 30 ≤ F) (q : ∀ h, Pre mh h → Q .non h) : Ok (rp F (k + 8) i_want_book [encB d r fns] mh) Q := by
  refine r_want_book rfl ?_
  unfold d_want_book
  walk_at "ev"
  refine o_is_book_any B hF ?_
  intro h hp
  walk_at "ev"
theorem o_want_function (B : BkOk d r fns) (hf : f < fns.length) (hF : 30 ≤ F) (q : ∀ h, Pre mh h → Q .non h) : Ok (rp F (k + 9) i_want_function_of [encB d r fns, .int f] mh) Q := by
  refine r_want_function_of rfl ?_
  unfold d_want_function_of
  have hl := encFs_len fns 0
  walk_at "ev"
  refine o_want_book B hF ?_
  intro h hp
  walk_at "ev"
theorem o_is_book (B : BkOk d r fns) (hF : 30 ≤ F) (q : ∀ h, Pre mh h → Q (.bl true) h) : Ok (rp F (k + 8) i_is_book [encB d r fns] mh) Q := by
  refine r_is_book rfl ?_
  unfold d_is_book
  walk_at "ev"
  refine o_is_book_any B hF ?_
  intro h hp
  walk_at "ev"
end K23
end L2
end
section
/-! K23G: ways, rows from the begin. -/
namespace L2
namespace K23
open PySem PySem.Spec PyProof.Rows L2.Vf
variable {F k : Nat} {mh : MH} {Q : MV → MH → Prop} {d r f n : Nat} {fns : List (List Rw)} {rows : List Rw}
abbrev lints (l : List Int) : MO := .lst (l.map .int)
def waysR (at_ : Int) : Rw → List Int
  | .test _ n => ssort [at_ + 1, n]
  | .go n => [(n : Int)]
  | .ret _ => []
  | _ => [at_ + 1]
def ways (rows : List Rw) (at_ : Int) : List Int := match rows[at_.toNat]? with
  | some row => waysR at_ row
  | none => []
noncomputable def clo (g : Int → List Int) : List Int := by
  classical exact if h : ∃ xs, IsClo g xs then h.choose else []
theorem clo_eq {g : Int → List Int} {xs : List Int} (h : IsClo g xs) : clo g = xs := by
  have hex : ∃ xs, IsClo g xs := ⟨xs, h⟩
  unfold clo
  rw [dif_pos hex]
  exact hex.choose_spec.uniq h
theorem encR_test {t : MV} {n : Nat} : encR (.test t n) = .tup [.str w_test, t, .int n] := rfl
theorem encR_call {f : Nat} : encR (.call f) = .tup [.str w_call, .str cX, .int f, .tup []] := rfl
theorem encR_go {n : Nat} : encR (.go n) = .tup [.str w_go, .int n] := rfl
theorem encR_ret {t : MV} : encR (.ret t) = .tup [.str w_return, t] := rfl
theorem encR_oth {t : MV} : encR (.oth t) = t := rfl
theorem oths_first {t : MV} (h : t ∈ oths) : ∃ w xs, t = .tup (.str w :: xs) ∧ beqL w w_return = false ∧ beqL w w_go = false ∧ beqL w w_test = false ∧ beqL w w_call = false := by
  rcases List.mem_cons.mp h with rfl | h
  · exact ⟨_, _, rfl, rfl, rfl, rfl, rfl⟩
  rcases List.mem_cons.mp h with rfl | h
  · exact ⟨_, _, rfl, rfl, rfl, rfl, rfl⟩
  rcases List.mem_cons.mp h with rfl | h
  · exact ⟨_, _, rfl, rfl, rfl, rfl, rfl⟩
  rcases List.mem_cons.mp h with rfl | h
  · exact ⟨_, _, rfl, rfl, rfl, rfl, rfl⟩
  cases h
-- simp: encR_test
-- simp: encR_call
-- simp: encR_go
-- simp: encR_ret
-- simp: encR_oth
-- simp: encF
set_option hygiene false
local macro_rules | `(tactic| walk_at "hget") => `(tactic| first | assumption | exact get_new _ _ | (refine get_old ?_; first | assumption | exact get_new _ _ | (refine get_old ?_; first | assumption | exact get_new _ _ | (refine get_old ?_; first | assumption | exact get_new _ _))))
local macro_rules | `(tactic| walk_at "pre") => `(tactic| first | assumption | exact Pre.refl | exact Pre.app _ | (refine Pre.snoc ?_ _; first | assumption | exact Pre.refl | exact Pre.app _ | (refine Pre.snoc ?_ _; first | assumption | exact Pre.refl | exact Pre.app _)))
local macro_rules | `(tactic| walk_at "ev1") => `(tactic| first
  | (with_reducible refine Os_seqC ?_; intro N' hN') | simp only [↓eqB_, ↓eqI_, ↓eqT_, ↓eqV_, ↓eqM_, ↓eqH_, ↓eqNt, ↓eqNf, ↓eqNs, ↓eqCt, ↓eqCf, ↓eqCn, ↓eqOp, ↓okE_ok, ↓okE_var, ↓okE_con, ↓okE_op1, ↓okE_op2, ↓okE_opN, ↓okE_nil, ↓okE_cons, ↓okE_if, ↓okE_andV, ↓okE_orV, ↓okE_notV, ↓okE_chain, ↓okE_bool, ↓okE_tru, ↓okE_and, ↓okE_or, ↓okE_not, ↓okE_ifB, ↓okE_yes, ↓okE_call, ↓okE_callK, ↓okE_meth, ↓okE_meth0, ↓okE_noPart, ↓okE_part, ↓okE_slice, ↓okE_any, ↓okE_rng1, ↓okE_lc, ↓okE_dnew, ↓okE_pnil, ↓okE_pcons, ↓osE_expr, ↓osE_set, ↓osE_ret, ↓osE_retN, ↓osE_pass, ↓osE_if, ↓osE_asg, ↓osE_sub, ↓okE_disp, ↓osE_name, ↓osE_nilG, ↓osE_consGn, ↓osE_tupT, ↓osE_tupP, ↓osE_par2, ↓osE_par3, ↓osE_for, ↓osE_while, p_isi_non1, p_isi_non2, p_isi_non3, p_isi_non4, p_isi_non5, p_isi_non6, p_isi_bl1, p_isi_bl2, p_isi_bl3, p_isi_bl4, p_isi_bl5, p_isi_bl6, p_isi_int1, p_isi_int2, p_isi_int3, p_isi_int4, p_isi_int5, p_isi_int6, p_isi_str1, p_isi_str2, p_isi_str3, p_isi_str4, p_isi_str5, p_isi_str6, p_isi_tup1, p_isi_tup2, p_isi_tup3, p_isi_tup4, p_isi_tup5, p_isi_tup6, p_isi_fl1, p_isi_fl2, p_isi_fl3, p_isi_fl4, p_isi_fl5, p_isi_fl6, p_ix0, p_ix1, p_ix2, p_ix3, p_ix4, p_ix5, p_ix6, p_ix7, p_lenT, p_lt, p_le, p_gt, p_ge, p_eqI, p_neI, p_eqS, p_neS, p_add, p_sub, p_is_non, p_isnot_non, p_is_bl, p_isnot_bl, p_is_int, p_isnot_int, p_is_str, p_isnot_str, p_is_tup, p_isnot_tup, p_is_fl, p_isnot_fl, p_is_loc, p_isnot_loc, p_trB, p_trN, p_trT0, p_trT, p_tup0, p_lst0, p_tup1, p_lst1, p_tup2, p_lst2, p_tup3, p_lst3, p_tup4, p_lst4, p_tup5, p_lst5, p_tup6, p_lst6, p_tup7, p_lst7, p_tup8, p_lst8, p_int, p_abs, v0, wipeE, List.length_cons, List.length_nil, List.length_map, List.map_cons, List.map_nil, List.cons_append, List.nil_append, List.replicate, List.getElem?_cons_succ, List.getElem?_cons_zero, List.set_cons_zero, List.set_cons_succ, Nat.reduceAdd, Nat.reduceSub, Int.cast_ofNat_Int, Int.reduceEq, Int.reduceLE, Int.reduceLT, Int.reduceAdd, Int.reduceSub, Int.reduceNeg, Nat.reduceEqDiff, decide_true, decide_false, Bool.not_true, Bool.not_false, true_and, and_true, and_self, g_BOOK, g_FUNCTION, g_WORD, g_LINK, g_KINDS, g_VAL, g_NEXT, g_LEAST_WIDTH, g_MOST_WIDTH, g_MOST_DEPTH, g_MOST_ROOM, g_MOST_FUNCTIONS, g_MOST_PARAMS, g_MOST_NAMES, g_MOST_BOOK_ROWS, g_MOST_TERM_DEEP, g_MOST_TITLE, kw_row_ways_0, kw_called_by_0, kw_reached_rows_0, kw_frames_wanted_0, encR_test, encR_call, encR_go, encR_ret, encR_oth, encF]
  | ((with_reducible show Cd _ _ _); first | refine Cd_pos rfl ?_ | refine Cd_neg rfl ?_ | refine Cd_pos (decide_eq_true (by omega)) ?_ | refine Cd_neg (decide_eq_false (by omega)) ?_ | refine Cd_pos (by assumption) ?_ | refine Cd_neg (by assumption) ?_)
  | ((with_reducible show Op _ _); first | with_reducible refine Op_ixT (by assumption) ?_ | ((with_reducible show Op (ixM (.loc _) _ _) _); refine Op_ix (by walk_at "hget") (by assumption) ?_) | ((with_reducible show Op (getDM (.loc _) _ _) _); first | refine Op_getS (by walk_at "hget") rfl rfl ?_ | refine Op_getN (by walk_at "hget") rfl rfl ?_) | ((with_reducible show Op (inM (.str _) _ _) _); refine Op_inTup (xs := _) rfl rfl rfl rfl ?_) | ((with_reducible show Op (notinM (.str _) _ _) _); refine Op_notinTup (xs := _) rfl rfl rfl rfl ?_) | refine Op_mk rfl ?_)
  | ((with_reducible refine hN' _ _ ?_); clear hN') | (clear hN'; (with_reducible refine hN' _ _ ?_); clear hN') | (clear hN'; clear hN'; (with_reducible refine hN' _ _ ?_); clear hN') | ((with_reducible show Q _ _); first | exact q | refine q _ ?_ | refine q _ _ ?_ ?_ ?_ | refine q _ _ ?_ ?_)
  | ((with_reducible show Pre _ _); walk_at "pre") | ((with_reducible show ON _ _ _); refine ON_l (by walk_at "hget") ?_) | ((with_reducible show OM _ _); first | refine OM_l (by walk_at "hget") ?_ | refine OM_d (by walk_at "hget") ?_) | ((with_reducible show (_ = _ ∧ _ = _ ∧ _ = _) ∧ _); refine ⟨⟨rfl, rfl, rfl⟩, ?_⟩)
  | ((with_reducible show ∃ _, _ = _ ∧ _); refine ⟨_, rfl, ?_⟩))
local macro_rules | `(tactic| walk_at "ev") => `(tactic| repeat walk_at "ev1")
local macro_rules | `(tactic| walk_at "ev1") => `(tactic| ((with_reducible show Ok (rp _ _ _ _ _) _); first | with_reducible refine o_is_integer ?_ | with_reducible refine o_is_within (by omega) (by omega) ?_ | ((with_reducible show Ok (rp _ _ i_is_tuple _ _) _); refine o_is_tuple rfl ?_) | ((with_reducible show Ok (rp _ _ i_is_kind _ _) _); refine o_is_kind (by first | exact .inl rfl | exact .inr rfl) ?_) | ((with_reducible show Ok (rp _ _ i_is_worded_row _ _) _); refine o_worded rfl ?_) | ((with_reducible show Ok (rp _ _ i_is_named _ _) _); refine r_is_named rfl ?_; unfold d_is_named) | ((with_reducible show Ok (rp _ _ i_rows_of_function _ _) _); refine r_rows_of_function rfl ?_; unfold d_rows_of_function)))
theorem row_get {i : Nat} {row : Rw} (h : rows[i]? = some row) : (rows.map encR)[i]? = some (encR row) := by rw [List.getElem?_map, h]; rfl
theorem o_ways_of_row {i : Nat} {row : Rw} (hf : fns[f]? = some rows) (hi : rows[i]? = some row) (hr : RwOk fns.length rows.length row) (q : ∀ n h, Pre mh h → mh.length ≤ n → h[n]? = some (lints (ways rows i)) → Q (.loc n) h) : Ok (rp F (k + 2) i_ways_of_row [encB d r fns, .int f, .int i] mh) Q := by
  refine r_ways_of_row rfl ?_
  unfold d_ways_of_row
  have e := fn_get hf
  have e2 := row_get hi
  have ew : ways rows i = waysR i row := by unfold ways; rw [Int.toNat_natCast, hi]
  rw [ew] at q
  cases row with
  | go n =>
    walk_at "ev"
    · exact Nat.le_refl _
    · exact get_new _ _
  | ret t =>
    walk_at "ev"
    · exact Nat.le_refl _
    · exact get_new _ _
  | call g =>
    walk_at "ev"
    · exact Nat.le_refl _
    · exact get_new _ _
  | test t n =>
    walk_at "ev"
    refine Op_srtset (ns := [(i : Int) + 1, (n : Int)]) (get_new _ _) (by show 2 < 64; decide) ?_
    walk_at "ev"
    · simp
    · exact get_new _ _
  | oth t =>
    obtain ⟨w, xs, rfl, h1, h2, h3, h4⟩ := oths_first hr
    walk_at "ev"
    · exact Nat.le_refl _
    · exact get_new _ _
end K23
end L2
end
section
/-! K23H: rows from the begin, calls, functions reached, frames. -/
namespace L2
namespace K23
open PySem PySem.Spec PyProof.Rows L2.Vf
-- simp: encR_test
-- simp: encR_call
-- simp: encR_go
-- simp: encR_ret
-- simp: encR_oth
-- simp: encF
set_option hygiene false
local macro_rules | `(tactic| walk_at "hget") => `(tactic| first | assumption | exact get_new _ _ | (refine get_old ?_; first | assumption | exact get_new _ _ | (refine get_old ?_; first | assumption | exact get_new _ _ | (refine get_old ?_; first | assumption | exact get_new _ _))))
local macro_rules | `(tactic| walk_at "pre") => `(tactic| first | assumption | exact Pre.refl | exact Pre.app _ | (refine Pre.snoc ?_ _; first | assumption | exact Pre.refl | exact Pre.app _ | (refine Pre.snoc ?_ _; first | assumption | exact Pre.refl | exact Pre.app _)))
local macro_rules | `(tactic| walk_at "ev1") => `(tactic| first
  | (with_reducible refine Os_seqC ?_; intro N' hN') | simp only [↓eqB_, ↓eqI_, ↓eqT_, ↓eqV_, ↓eqM_, ↓eqH_, ↓eqNt, ↓eqNf, ↓eqNs, ↓eqCt, ↓eqCf, ↓eqCn, ↓eqOp, ↓okE_ok, ↓okE_var, ↓okE_con, ↓okE_op1, ↓okE_op2, ↓okE_opN, ↓okE_nil, ↓okE_cons, ↓okE_if, ↓okE_andV, ↓okE_orV, ↓okE_notV, ↓okE_chain, ↓okE_bool, ↓okE_tru, ↓okE_and, ↓okE_or, ↓okE_not, ↓okE_ifB, ↓okE_yes, ↓okE_call, ↓okE_callK, ↓okE_meth, ↓okE_meth0, ↓okE_noPart, ↓okE_part, ↓okE_slice, ↓okE_any, ↓okE_rng1, ↓okE_lc, ↓okE_dnew, ↓okE_pnil, ↓okE_pcons, ↓osE_expr, ↓osE_set, ↓osE_ret, ↓osE_retN, ↓osE_pass, ↓osE_if, ↓osE_asg, ↓osE_sub, ↓okE_disp, ↓osE_name, ↓osE_nilG, ↓osE_consGn, ↓osE_tupT, ↓osE_tupP, ↓osE_par2, ↓osE_par3, ↓osE_for, ↓osE_while, p_isi_non1, p_isi_non2, p_isi_non3, p_isi_non4, p_isi_non5, p_isi_non6, p_isi_bl1, p_isi_bl2, p_isi_bl3, p_isi_bl4, p_isi_bl5, p_isi_bl6, p_isi_int1, p_isi_int2, p_isi_int3, p_isi_int4, p_isi_int5, p_isi_int6, p_isi_str1, p_isi_str2, p_isi_str3, p_isi_str4, p_isi_str5, p_isi_str6, p_isi_tup1, p_isi_tup2, p_isi_tup3, p_isi_tup4, p_isi_tup5, p_isi_tup6, p_isi_fl1, p_isi_fl2, p_isi_fl3, p_isi_fl4, p_isi_fl5, p_isi_fl6, p_ix0, p_ix1, p_ix2, p_ix3, p_ix4, p_ix5, p_ix6, p_ix7, p_lenT, p_lt, p_le, p_gt, p_ge, p_eqI, p_neI, p_eqS, p_neS, p_add, p_sub, p_is_non, p_isnot_non, p_is_bl, p_isnot_bl, p_is_int, p_isnot_int, p_is_str, p_isnot_str, p_is_tup, p_isnot_tup, p_is_fl, p_isnot_fl, p_is_loc, p_isnot_loc, p_trB, p_trN, p_trT0, p_trT, p_tup0, p_lst0, p_tup1, p_lst1, p_tup2, p_lst2, p_tup3, p_lst3, p_tup4, p_lst4, p_tup5, p_lst5, p_tup6, p_lst6, p_tup7, p_lst7, p_tup8, p_lst8, p_int, p_abs, v0, wipeE, List.length_cons, List.length_nil, List.length_map, List.map_cons, List.map_nil, List.cons_append, List.nil_append, List.replicate, List.getElem?_cons_succ, List.getElem?_cons_zero, List.set_cons_zero, List.set_cons_succ, Nat.reduceAdd, Nat.reduceSub, Int.cast_ofNat_Int, Int.reduceEq, Int.reduceLE, Int.reduceLT, Int.reduceAdd, Int.reduceSub, Int.reduceNeg, Nat.reduceEqDiff, decide_true, decide_false, Bool.not_true, Bool.not_false, true_and, and_true, and_self, g_BOOK, g_FUNCTION, g_WORD, g_LINK, g_KINDS, g_VAL, g_NEXT, g_LEAST_WIDTH, g_MOST_WIDTH, g_MOST_DEPTH, g_MOST_ROOM, g_MOST_FUNCTIONS, g_MOST_PARAMS, g_MOST_NAMES, g_MOST_BOOK_ROWS, g_MOST_TERM_DEEP, g_MOST_TITLE, kw_row_ways_0, kw_called_by_0, kw_reached_rows_0, kw_frames_wanted_0, encR_test, encR_call, encR_go, encR_ret, encR_oth, encF]
  | ((with_reducible show Cd _ _ _); first | refine Cd_pos rfl ?_ | refine Cd_neg rfl ?_ | refine Cd_pos (decide_eq_true (by omega)) ?_ | refine Cd_neg (decide_eq_false (by omega)) ?_ | refine Cd_pos (by assumption) ?_ | refine Cd_neg (by assumption) ?_)
  | ((with_reducible show Op _ _); first | with_reducible refine Op_ixT (by assumption) ?_ | ((with_reducible show Op (ixM (.loc _) _ _) _); refine Op_ix (by walk_at "hget") (by assumption) ?_) | ((with_reducible show Op (getDM (.loc _) _ _) _); first | refine Op_getS (by walk_at "hget") rfl rfl ?_ | refine Op_getN (by walk_at "hget") rfl rfl ?_) | ((with_reducible show Op (inM (.str _) _ _) _); refine Op_inTup (xs := _) rfl rfl rfl rfl ?_) | ((with_reducible show Op (notinM (.str _) _ _) _); refine Op_notinTup (xs := _) rfl rfl rfl rfl ?_) | refine Op_mk rfl ?_)
  | ((with_reducible refine hN' _ _ ?_); clear hN') | (clear hN'; (with_reducible refine hN' _ _ ?_); clear hN') | (clear hN'; clear hN'; (with_reducible refine hN' _ _ ?_); clear hN') | ((with_reducible show Q _ _); first | exact q | refine q _ ?_ | refine q _ _ ?_ ?_ ?_ | refine q _ _ ?_ ?_)
  | ((with_reducible show Pre _ _); walk_at "pre") | ((with_reducible show ON _ _ _); refine ON_l (by walk_at "hget") ?_) | ((with_reducible show OM _ _); first | refine OM_l (by walk_at "hget") ?_ | refine OM_d (by walk_at "hget") ?_) | ((with_reducible show (_ = _ ∧ _ = _ ∧ _ = _) ∧ _); refine ⟨⟨rfl, rfl, rfl⟩, ?_⟩)
  | ((with_reducible show ∃ _, _ = _ ∧ _); refine ⟨_, rfl, ?_⟩))
local macro_rules | `(tactic| walk_at "ev") => `(tactic| repeat walk_at "ev1")
local macro_rules | `(tactic| walk_at "ev1") => `(tactic| ((with_reducible show Ok (rp _ _ _ _ _) _); first | with_reducible refine o_is_integer ?_ | with_reducible refine o_is_within (by omega) (by omega) ?_ | ((with_reducible show Ok (rp _ _ i_is_tuple _ _) _); refine o_is_tuple rfl ?_) | ((with_reducible show Ok (rp _ _ i_is_kind _ _) _); refine o_is_kind (by first | exact .inl rfl | exact .inr rfl) ?_) | ((with_reducible show Ok (rp _ _ i_is_worded_row _ _) _); refine o_worded rfl ?_) | ((with_reducible show Ok (rp _ _ i_is_named _ _) _); refine r_is_named rfl ?_; unfold d_is_named) | ((with_reducible show Ok (rp _ _ i_rows_of_function _ _) _); refine r_rows_of_function rfl ?_; unfold d_rows_of_function)))
variable {F k : Nat} {mh : MH} {Q : MV → MH → Prop} {d r f n : Nat} {fns : List (List Rw)} {rows : List Rw}
abbrev dKeys (ks : List Int) : MO := .dct (ks.map fun k => (.int k, .bl true))
theorem mem_row {i : Nat} (h : i < rows.length) : rows[i]? = some rows[i] := by simp [h]
theorem FnOk.next {nf : Nat} (H : FnOk nf rows) {i : Nat} {row : Rw} (h : rows[i]? = some row) (hn : isEnd row = false) : i + 1 < rows.length := by
  obtain ⟨ini, l, e, hl⟩ := H.last
  subst e
  have hlt := (List.getElem?_eq_some_iff.mp h).1
  rw [List.length_append, List.length_singleton] at hlt ⊢
  apply Classical.byContradiction
  intro hh
  have : i = ini.length := by omega
  subst this
  rw [List.getElem?_append_right (Nat.le_refl _), Nat.sub_self] at h
  cases h
  rw [hl] at hn
  cases hn
theorem FnOk.inn {nf : Nat} (H : FnOk nf rows) : Inn (ways rows) rows.length := by
  obtain ⟨ini, l, e, hl⟩ := H.last
  refine ⟨by rw [e]; simp, fun a h1 h2 b hb => ?_⟩
  obtain ⟨i, rfl⟩ := Int.eq_ofNat_of_zero_le h1
  have hi : i < rows.length := by omega
  have hg := mem_row hi
  generalize rows[i] = row at hg
  have ok := H.rw_ row (List.mem_of_getElem? hg)
  unfold ways at hb
  rw [Int.toNat_natCast, hg] at hb
  dsimp only at hb
  cases row with
  | go n =>
    have ok : n < rows.length := ok
    simp [waysR] at hb; omega
  | ret t => simp [waysR] at hb
  | call g => have := H.next hg rfl; simp [waysR] at hb; omega
  | oth g => have := H.next hg rfl; simp [waysR] at hb; omega
  | test t n =>
    have := H.next hg rfl
    have ok : t ∈ tests ∧ n < rows.length := ok
    rw [waysR, ssort_mem] at hb
    simp at hb; omega
theorem ways_len (a : Int) : (ways rows a).length ≤ 2 := by
  unfold ways
  split
  · rename_i row _
    cases row with
    | test t n =>
      show (ssort [a + 1, (n : Int)]).length ≤ 2
      simp only [ssort, List.foldr, insU]
      split
      · simp
      · split <;> simp
    | _ => simp [waysR]
  · simp
theorem neq_of_get {h : MH} {p s : Nat} {ks st : List Int} (e1 : h[p]? = some (dKeys ks)) (e2 : h[s]? = some (lints st)) : p ≠ s := by
  intro e
  subst e
  rw [e1] at e2
  cases e2
/-- a loop's state: found at p, left at s -/
structure Dst (mh h : MH) (p s : Nat) (ks st : List Int) : Prop where
  pre : Pre mh h
  hp : mh.length ≤ p
  hs : mh.length ≤ s
  gp : h[p]? = some (dKeys ks)
  gs : h[s]? = some (lints st)
theorem Dst.mono {mh h h2 : MH} {p s : Nat} {ks st : List Int} (a : Dst mh h p s ks st) (b : Pre h h2) : Dst mh h2 p s ks st := ⟨a.pre.trans b, a.hp, a.hs, b.get a.gp, b.get a.gs⟩
theorem dput_new {ks : List Int} {y : Int} (h : y ∉ ks) : dputM (ks.map fun k => (.int k, .bl true)) (.int y) (.bl true) = (ks ++ [y]).map fun k => (.int k, .bl true) := by
  unfold dputM
  rw [dany_keys, decide_eq_false h]
  simp
theorem Dst.add {mh h : MH} {p s : Nat} {ks st : List Int} {y : Int} (a : Dst mh h p s ks st) : Dst mh ((h.set p (dKeys (ks ++ [y]))).set s (lints (st ++ [y]))) p s (ks ++ [y]) (st ++ [y]) := by
  have hne := neq_of_get a.gp a.gs
  have l1 := lt_of_get a.gp
  have l2 := lt_of_get a.gs
  refine ⟨(a.pre.set a.hp).set a.hs, a.hp, a.hs, ?_, List.getElem?_set_self (by rw [List.length_set]; exact l2)⟩
  rw [List.getElem?_set_ne (Ne.symm hne)]
  exact List.getElem?_set_self l1
theorem turn_add {h : MH} {p s : Nat} {ks st : List Int} {y : Int} {a b : Option MV} {rt : Rt} {N : Env' → MH → Prop} {R : MV → MH → Prop} (D : Dst mh h p s ks st) (hk : ks.length < 100) (hs : st.length < 100)
    (k1 : y ∈ ks → N [a, b, some (.loc p), some (.loc s), some (.int y)] h) (k2 : y ∉ ks → N [a, b, some (.loc p), some (.loc s), some (.int y)] ((h.set p (dKeys (ks ++ [y]))).set s (lints (st ++ [y])))) :
    Os (fb_rows_from_begin_1 rt [a, b, some (.loc p), some (.loc s), some (.int y)] h) N R := by
  unfold fb_rows_from_begin_1
  have g1 := D.gp
  have g2 := D.gs
  have hne := neq_of_get g1 g2
  walk_at "ev"
  refine Op_notinD g1 rfl ?_
  rw [dfind_keys]
  walk_at "ev"
  by_cases hy : y ∈ ks
  · rw [decide_eq_true hy]
    walk_at "ev"
    exact k1 hy
  · rw [decide_eq_false hy]
    walk_at "ev"
    rw [stIx_d g1 rfl (by simp; omega), dput_new hy]
    walk_at "ev"
    have g3 := get_other (x := dKeys (ks ++ [y])) g2 hne
    refine OM_l g3 ?_
    walk_at "ev"
    refine Op_append g3 (by simp; omega) ?_
    walk_at "ev"
    rw [show MO.lst (st.map MV.int ++ [MV.int y]) = lints (st ++ [y]) from by simp [lints]]
    exact k2 hy
/-- all ways of one row -/
theorem ways_loop {h : MH} {p s w c : Nat} {g : Int → List Int} {a0 : Int} {ks st : List Int} {a b z : Option MV} {rt : Rt} {N : Nat} {Nn : Env' → MH → Prop} {R : MV → MH → Prop} (hN : Inn g N) (hN2 : N < 50)
    (D : Dst mh h p s ks st) (hw : h[w]? = some (lints (g a0))) (hwp : w ≠ p) (hws : w ≠ s) (A : Amid g a0 (g a0) ks st) (hc : st.length + c = ks.length) (hF : (g a0).length < F)
    (k : ∀ h ks st z, Dst mh h p s ks st → Dfs g ks st → st.length + c = ks.length → Nn [a, b, some (.loc p), some (.loc s), z] h) :
    Os (forL (nxtL w) (nameG 4) fb_rows_from_begin_1 rt F 0 [a, b, some (.loc p), some (.loc s), z] h) Nn R := by
  refine Os_forL (fun i e h => ∃ ks st z, e = [a, b, some (.loc p), some (.loc s), z] ∧ Dst mh h p s ks st ∧ h[w]? = some (lints (g a0)) ∧ Amid g a0 ((g a0).drop i) ks st ∧ st.length + c = ks.length) (g a0).length ?_ ?_ (g a0).length F 0 _ _ (by omega) hF ⟨ks, st, z, rfl, D, hw, A, hc⟩
  · rintro i e h hi ⟨ks, st, z, rfl, D, hw, A, hc⟩
    have hg : (g a0)[i]? = some (g a0)[i] := by simp [hi]
    have hd : (g a0).drop i = (g a0)[i] :: (g a0).drop (i + 1) := List.drop_eq_getElem_cons hi
    generalize (g a0)[i] = y at hg hd
    rw [hd] at A
    refine ⟨.int y, by rw [nxtL_at hw, List.getElem?_map, hg]; rfl, ?_⟩
    walk_at "ev"
    have hl := A.len hN
    refine turn_add D (by omega) (by omega) (fun hy => ⟨ks, st, _, rfl, D, hw, A.skip hy, hc⟩) (fun hy => ⟨ks ++ [y], st ++ [y], _, rfl, D.add, ?_, A.add hy, by simp; omega⟩)
    rw [List.getElem?_set_ne (Ne.symm hws), List.getElem?_set_ne (Ne.symm hwp)]
    exact hw
  · rintro e h ⟨ks, st, z, rfl, D, hw, A, hc⟩
    refine ⟨by rw [nxtL_at hw]; simp, ?_⟩
    rw [List.drop_of_length_le (Nat.le_refl _)] at A
    exact k h ks st z D A.end hc
theorem nil_or (l : List Int) : l = [] ∨ ∃ m a, l = m ++ [a] := by
  rcases List.eq_nil_or_concat l with h | ⟨m, a, h⟩
  · exact .inl h
  · exact .inr ⟨m, a, by rw [h, List.concat_eq_append]⟩
theorem snoc_empty (l : List Int) (a : Int) : (l ++ [a]).isEmpty = false := by simp
theorem snoc_ints (l : List Int) (a : Int) : lints (l ++ [a]) = .lst (l.map .int ++ [.int a]) := by simp [lints]
theorem Dst.pop {mh h : MH} {p s : Nat} {ks st : List Int} {a : Int} (D : Dst mh h p s ks (st ++ [a])) : Dst mh (h.set s (lints st)) p s ks st :=
  ⟨D.pre.set D.hs, D.hp, D.hs, by rw [List.getElem?_set_ne (Ne.symm (neq_of_get D.gp D.gs))]; exact D.gp, get_set D.gs⟩
theorem o_rows_from_begin (hf : fns[f]? = some rows) (H : FnOk fns.length rows) (hF : 60 ≤ F) (q : ∀ n h, Pre mh h → mh.length ≤ n → h[n]? = some (lints (clo (ways rows))) → IsClo (ways rows) (clo (ways rows)) → Q (.loc n) h) : Ok (rp F (k + 3) i_rows_from_begin [encB d r fns, .int f] mh) Q := by
  refine r_rows_from_begin rfl ?_
  unfold d_rows_from_begin
  have hN := H.inn
  have h12 := H.le
  walk_at "ev"
  refine ⟨get_new _ _, rfl, ?_⟩
  walk_at "ev"
  have D0 : Dst mh (List.set (mh ++ [.dct []]) mh.length (dKeys [0]) ++ [MO.lst [MV.int 0]]) mh.length (List.set (mh ++ [.dct []]) mh.length (dKeys [0])).length [0] [0] := by
    refine ⟨((Pre.app _).set (Nat.le_refl _)).snoc _, Nat.le_refl _, by simp, ?_, get_new _ _⟩
    exact get_old (get_set (get_new _ _))
  have e0 : MO.dct (dmerge [] [(MV.int 0, MV.bl true)]) = dKeys [0] := rfl
  rw [e0]
  generalize List.set (mh ++ [.dct []]) mh.length (dKeys [0]) ++ [MO.lst [MV.int 0]] = h1 at *
  generalize (List.set (mh ++ [.dct []]) mh.length (dKeys [0])).length = s at *
  clear e0
  refine Os_whileL (fun m e h => ∃ ks st z c, e = [some (encB d r fns), some (.int f), some (.loc mh.length), some (.loc s), z] ∧ Dst mh h mh.length s ks st ∧ Dfs (ways rows) ks st ∧ st.length + c = ks.length ∧ m + c = rows.length) ?_ F rows.length _ _ (by omega) ⟨[0], [0], none, 0, rfl, D0, .start _, rfl, rfl⟩
  rintro m e h ⟨ks, st, z, c, rfl, D, S, hc, hm⟩
  unfold wc_rows_from_begin_0
  walk_at "ev"
  refine Op_neEmpty (get_old D.gs) (get_new _ _) ?_
  walk_at "ev"
  have D := D.mono (.app [.lst []])
  rcases nil_or st with rfl | ⟨st', a, rfl⟩
  · walk_at "ev"
    have hl := S.len hN
    refine Op_sortedD (ns := ks) D.gp (by simp) (by omega) ?_
    have cl := S.done
    refine q _ _ (D.pre.snoc _) (by have := D.pre.le; simp at this ⊢; omega) (by rw [clo_eq cl]; exact get_new _ _) (by rw [clo_eq cl]; exact cl)
  · rw [snoc_empty]
    walk_at "ev"
    unfold wb_rows_from_begin_2
    have ha := (S.rc a (S.sub a (by simp))).inn hN
    obtain ⟨i, rfl⟩ := Int.eq_ofNat_of_zero_le ha.1
    have hi := mem_row (rows := rows) (i := i) (by omega)
    have g2 := D.gs
    rw [snoc_ints] at g2
    walk_at "ev"
    refine Op_pop g2 ?_
    have D := D.pop
    walk_at "ev"
    refine o_ways_of_row hf hi (H.rw_ _ (List.mem_of_getElem? hi)) ?_
    intro w h2 hp2 hw2 hw3
    have hl1 := lt_of_get D.gp
    have hl2 := lt_of_get D.gs
    rw [List.length_set] at hl1 hl2 hw2
    have D := D.mono hp2
    walk_at "ev"
    have hne := neq_of_get D.gp D.gs
    have A := S.pop
    have hl := S.len hN
    have hc : st'.length + 1 + c = ks.length := by simpa using hc
    have hwl := ways_len (rows := rows) i
    refine ways_loop (c := c + 1) hN (by omega) D hw3 (by omega) (by omega) A (by omega) (by omega) ?_
    intro h3 ks3 st3 z3 D3 S3 hc3
    walk_at "ev"
    have hl3 := S3.len hN
    exact ⟨rows.length - (c + 1), by omega, ks3, st3, z3, c + 1, rfl, D3, S3, hc3, by omega⟩
/-! ### calls -/
def callAt (rows : List Rw) (a : Int) : Option Int := match rows[a.toNat]? with
  | some (.call f) => some f
  | _ => none
def callR : Rw → Option Int
  | .call f => some f
  | _ => none
theorem callAt_eq {i : Nat} {row : Rw} (h : rows[i]? = some row) : callAt rows i = callR row := by
  unfold callAt
  rw [Int.toNat_natCast, h]
  cases row <;> rfl
noncomputable def callsOf (rows : List Rw) : List Int := ssort ((clo (ways rows)).filterMap (callAt rows))
noncomputable def cg (fns : List (List Rw)) (f : Int) : List Int := match fns[f.toNat]? with
  | some rows => callsOf rows
  | none => []
theorem fm_eq {l : List Int} {p : MV → Bool} {fv : MV → MV} {g : Int → Option Int} (h : ∀ a ∈ l, (p (.int a) = true ∧ ∃ b, g a = some b ∧ fv (.int a) = .int b) ∨ (p (.int a) = false ∧ g a = none)) : ((l.map MV.int).filter p).map fv = (l.filterMap g).map MV.int := by
  induction l with
  | nil => rfl
  | cons a l ih =>
    have ih := ih fun x hx => h x (List.mem_cons_of_mem _ hx)
    rcases h a List.mem_cons_self with ⟨h1, b, h2, h3⟩ | ⟨h1, h2⟩
    · rw [List.map_cons, List.filter_cons, if_pos h1, List.map_cons, ih, List.filterMap_cons, h2, h3]; rfl
    · rw [List.map_cons, List.filter_cons, h1, if_neg (by simp), ih, List.filterMap_cons, h2]
def pCall (rows : List Rw) : MV → Bool
  | .int a => (callAt rows a).isSome
  | _ => false
def fCall (rows : List Rw) : MV → MV
  | .int a => match callAt rows a with
    | some b => .int b
    | none => .non
  | _ => .non
theorem fm_calls (l : List Int) : ((l.map MV.int).filter (pCall rows)).map (fCall rows) = (l.filterMap (callAt rows)).map MV.int := fm_eq fun a _ => by
  cases e : callAt rows a with
  | none => exact .inr ⟨by simp [pCall, e], rfl⟩
  | some b => exact .inl ⟨by simp [pCall, e], b, rfl, by simp [fCall, e]⟩
theorem o_calls_of (hf : fns[f]? = some rows) (H : FnOk fns.length rows) (hF : 60 ≤ F) (q : ∀ n h, Pre mh h → mh.length ≤ n → h[n]? = some (lints (callsOf rows)) → Q (.loc n) h) : Ok (rp F (k + 4) i_calls_of [encB d r fns, .int f] mh) Q := by
  refine r_calls_of rfl ?_
  unfold d_calls_of
  have e := fn_get hf
  have hN := H.inn
  have h12 := H.le
  walk_at "ev"
  refine o_rows_from_begin hf H hF ?_
  intro n h hp hn hg cl
  walk_at "ev"
  have hl : (clo (ways rows)).length ≤ rows.length := by
    have := asc_len (l := clo (ways rows)) (a := 0) (N := rows.length) cl.srt fun x hx => ((cl.mem x).mp hx).inn hN
    omega
  obtain ⟨m, e2, p2⟩ := lc_filt (nxt := nxtL n) (g := nameG 3) (tt := cc_calls_of_0) (te := ce_calls_of_1) (rt := ⟨rp F (k + 3), F⟩) (env := wipeE [some (encB d r fns), some (.int f), some (.tup (rows.map encR)), none] [3]) (mh := h) (xs := (clo (ways rows)).map .int) (F := F) (pCall rows) (fCall rows)
    (by simp; omega) (by simp; omega) (fun h hp i => nxtL_at (hp.get hg) i) (fun x hx h hp => by
      refine ⟨_, rfl, ?_⟩
      unfold cc_calls_of_0
      obtain ⟨a, ha, rfl⟩ := List.mem_map.mp hx
      have hb := ((cl.mem a).mp ha).inn hN
      obtain ⟨i, rfl⟩ := Int.eq_ofNat_of_zero_le hb.1
      have hi := mem_row (rows := rows) (i := i) (by omega)
      have hr := H.rw_ _ (List.mem_of_getElem? hi)
      generalize rows[i] = row at hi hr
      have e2 := row_get hi
      have ec := callAt_eq hi
      cases row with
      | call g =>
        walk_at "ev"
        refine ⟨by simp [pCall, ec, callR]; rfl, .refl, fun _ => ?_⟩
        unfold ce_calls_of_1
        walk_at "ev"
        exact ⟨by simp [fCall, ec, callR], .refl⟩
      | oth t =>
        obtain ⟨w, xs, rfl, h1, h2, h3, h4⟩ := oths_first hr
        walk_at "ev"
        refine ⟨by simp [pCall, ec, callR]; exact h4, .refl, fun z => ?_⟩
        rw [h4] at z
        cases z
      | go n =>
        walk_at "ev"
        refine ⟨by simp [pCall, ec, callR]; rfl, .refl, fun z => ?_⟩
        cases z
      | ret n =>
        walk_at "ev"
        refine ⟨by simp [pCall, ec, callR]; rfl, .refl, fun z => ?_⟩
        cases z
      | test t n =>
        walk_at "ev"
        refine ⟨by simp [pCall, ec, callR]; rfl, .refl, fun z => ?_⟩
        cases z)
  refine ⟨_, _, e2, ?_⟩
  rw [fm_calls]
  have hl2 := List.length_filterMap_le (callAt rows) (clo (ways rows))
  refine Op_srtset (get_new _ _) (by omega) ?_
  refine q _ _ ((hp.trans p2).snoc _ |>.snoc _) (by have := hp.le; have := p2.le; simp; omega) (get_new _ _)
end K23
end L2
end
section
/-! K23I: functions reached, frames, what is asked. -/
namespace L2
namespace K23
open PySem PySem.Spec PyProof.Rows L2.Vf
-- simp: encR_test
-- simp: encR_call
-- simp: encR_go
-- simp: encR_ret
-- simp: encR_oth
-- simp: encF
set_option hygiene false
local macro_rules | `(tactic| walk_at "hget") => `(tactic| first | assumption | exact get_new _ _ | (refine get_old ?_; first | assumption | exact get_new _ _ | (refine get_old ?_; first | assumption | exact get_new _ _ | (refine get_old ?_; first | assumption | exact get_new _ _))))
local macro_rules | `(tactic| walk_at "pre") => `(tactic| first | assumption | exact Pre.refl | exact Pre.app _ | (refine Pre.snoc ?_ _; first | assumption | exact Pre.refl | exact Pre.app _ | (refine Pre.snoc ?_ _; first | assumption | exact Pre.refl | exact Pre.app _)))
local macro_rules | `(tactic| walk_at "ev1") => `(tactic| first
  | (with_reducible refine Os_seqC ?_; intro N' hN') | simp only [↓eqB_, ↓eqI_, ↓eqT_, ↓eqV_, ↓eqM_, ↓eqH_, ↓eqNt, ↓eqNf, ↓eqNs, ↓eqCt, ↓eqCf, ↓eqCn, ↓eqOp, ↓okE_ok, ↓okE_var, ↓okE_con, ↓okE_op1, ↓okE_op2, ↓okE_opN, ↓okE_nil, ↓okE_cons, ↓okE_if, ↓okE_andV, ↓okE_orV, ↓okE_notV, ↓okE_chain, ↓okE_bool, ↓okE_tru, ↓okE_and, ↓okE_or, ↓okE_not, ↓okE_ifB, ↓okE_yes, ↓okE_call, ↓okE_callK, ↓okE_meth, ↓okE_meth0, ↓okE_noPart, ↓okE_part, ↓okE_slice, ↓okE_any, ↓okE_rng1, ↓okE_lc, ↓okE_dnew, ↓okE_pnil, ↓okE_pcons, ↓osE_expr, ↓osE_set, ↓osE_ret, ↓osE_retN, ↓osE_pass, ↓osE_if, ↓osE_asg, ↓osE_sub, ↓okE_disp, ↓osE_name, ↓osE_nilG, ↓osE_consGn, ↓osE_tupT, ↓osE_tupP, ↓osE_par2, ↓osE_par3, ↓osE_for, ↓osE_while, p_isi_non1, p_isi_non2, p_isi_non3, p_isi_non4, p_isi_non5, p_isi_non6, p_isi_bl1, p_isi_bl2, p_isi_bl3, p_isi_bl4, p_isi_bl5, p_isi_bl6, p_isi_int1, p_isi_int2, p_isi_int3, p_isi_int4, p_isi_int5, p_isi_int6, p_isi_str1, p_isi_str2, p_isi_str3, p_isi_str4, p_isi_str5, p_isi_str6, p_isi_tup1, p_isi_tup2, p_isi_tup3, p_isi_tup4, p_isi_tup5, p_isi_tup6, p_isi_fl1, p_isi_fl2, p_isi_fl3, p_isi_fl4, p_isi_fl5, p_isi_fl6, p_ix0, p_ix1, p_ix2, p_ix3, p_ix4, p_ix5, p_ix6, p_ix7, p_lenT, p_lt, p_le, p_gt, p_ge, p_eqI, p_neI, p_eqS, p_neS, p_add, p_sub, p_is_non, p_isnot_non, p_is_bl, p_isnot_bl, p_is_int, p_isnot_int, p_is_str, p_isnot_str, p_is_tup, p_isnot_tup, p_is_fl, p_isnot_fl, p_is_loc, p_isnot_loc, p_trB, p_trN, p_trT0, p_trT, p_tup0, p_lst0, p_tup1, p_lst1, p_tup2, p_lst2, p_tup3, p_lst3, p_tup4, p_lst4, p_tup5, p_lst5, p_tup6, p_lst6, p_tup7, p_lst7, p_tup8, p_lst8, p_int, p_abs, v0, wipeE, List.length_cons, List.length_nil, List.length_map, List.map_cons, List.map_nil, List.cons_append, List.nil_append, List.replicate, List.getElem?_cons_succ, List.getElem?_cons_zero, List.set_cons_zero, List.set_cons_succ, Nat.reduceAdd, Nat.reduceSub, Int.cast_ofNat_Int, Int.reduceEq, Int.reduceLE, Int.reduceLT, Int.reduceAdd, Int.reduceSub, Int.reduceNeg, Nat.reduceEqDiff, decide_true, decide_false, Bool.not_true, Bool.not_false, true_and, and_true, and_self, g_BOOK, g_FUNCTION, g_WORD, g_LINK, g_KINDS, g_VAL, g_NEXT, g_LEAST_WIDTH, g_MOST_WIDTH, g_MOST_DEPTH, g_MOST_ROOM, g_MOST_FUNCTIONS, g_MOST_PARAMS, g_MOST_NAMES, g_MOST_BOOK_ROWS, g_MOST_TERM_DEEP, g_MOST_TITLE, kw_row_ways_0, kw_called_by_0, kw_reached_rows_0, kw_frames_wanted_0, encR_test, encR_call, encR_go, encR_ret, encR_oth, encF]
  | ((with_reducible show Cd _ _ _); first | refine Cd_pos rfl ?_ | refine Cd_neg rfl ?_ | refine Cd_pos (decide_eq_true (by omega)) ?_ | refine Cd_neg (decide_eq_false (by omega)) ?_ | refine Cd_pos (by assumption) ?_ | refine Cd_neg (by assumption) ?_)
  | ((with_reducible show Op _ _); first | with_reducible refine Op_ixT (by assumption) ?_ | ((with_reducible show Op (ixM (.loc _) _ _) _); refine Op_ix (by walk_at "hget") (by assumption) ?_) | ((with_reducible show Op (getDM (.loc _) _ _) _); first | refine Op_getS (by walk_at "hget") rfl rfl ?_ | refine Op_getN (by walk_at "hget") rfl rfl ?_) | ((with_reducible show Op (inM (.str _) _ _) _); refine Op_inTup (xs := _) rfl rfl rfl rfl ?_) | ((with_reducible show Op (notinM (.str _) _ _) _); refine Op_notinTup (xs := _) rfl rfl rfl rfl ?_) | refine Op_mk rfl ?_)
  | ((with_reducible refine hN' _ _ ?_); clear hN') | (clear hN'; (with_reducible refine hN' _ _ ?_); clear hN') | (clear hN'; clear hN'; (with_reducible refine hN' _ _ ?_); clear hN') | ((with_reducible show Q _ _); first | exact q | refine q _ ?_ | refine q _ _ ?_ ?_ ?_ | refine q _ _ ?_ ?_)
  | ((with_reducible show Pre _ _); walk_at "pre") | ((with_reducible show ON _ _ _); refine ON_l (by walk_at "hget") ?_) | ((with_reducible show OM _ _); first | refine OM_l (by walk_at "hget") ?_ | refine OM_d (by walk_at "hget") ?_) | ((with_reducible show (_ = _ ∧ _ = _ ∧ _ = _) ∧ _); refine ⟨⟨rfl, rfl, rfl⟩, ?_⟩)
  | ((with_reducible show ∃ _, _ = _ ∧ _); refine ⟨_, rfl, ?_⟩))
local macro_rules | `(tactic| walk_at "ev") => `(tactic| repeat walk_at "ev1")
local macro_rules | `(tactic| walk_at "ev1") => `(tactic| ((with_reducible show Ok (rp _ _ _ _ _) _); first | with_reducible refine o_is_integer ?_ | with_reducible refine o_is_within (by omega) (by omega) ?_ | ((with_reducible show Ok (rp _ _ i_is_tuple _ _) _); refine o_is_tuple rfl ?_) | ((with_reducible show Ok (rp _ _ i_is_kind _ _) _); refine o_is_kind (by first | exact .inl rfl | exact .inr rfl) ?_) | ((with_reducible show Ok (rp _ _ i_is_worded_row _ _) _); refine o_worded rfl ?_) | ((with_reducible show Ok (rp _ _ i_is_named _ _) _); refine r_is_named rfl ?_; unfold d_is_named) | ((with_reducible show Ok (rp _ _ i_rows_of_function _ _) _); refine r_rows_of_function rfl ?_; unfold d_rows_of_function)))
variable {F k : Nat} {mh : MH} {Q : MV → MH → Prop} {d r f n : Nat} {fns : List (List Rw)} {rows : List Rw}
theorem cg_eq {i : Nat} (h : fns[i]? = some rows) : cg fns (i : Int) = callsOf rows := by
  unfold cg
  rw [Int.toNat_natCast, h]
theorem calls_mem {nf : Nat} (H : FnOk nf rows) {b : Int} (h : b ∈ callsOf rows) : 0 ≤ b ∧ b < nf := by
  unfold callsOf at h
  rw [ssort_mem] at h
  obtain ⟨a, _, q⟩ := List.mem_filterMap.mp h
  unfold callAt at q
  split at q
  · rename_i g e
    cases q
    have : g < nf := H.rw_ _ (List.mem_of_getElem? e)
    omega
  · cases q
theorem callsOf_len {nf : Nat} (H : FnOk nf rows) : (callsOf rows).length ≤ nf := by
  have := asc_len (l := callsOf rows) (a := 0) (N := nf) (ssort_srt _) fun x hx => calls_mem H hx
  omega
theorem BkOk.inn (B : BkOk d r fns) : Inn (cg fns) fns.length := by
  refine ⟨B.f1, fun a h1 h2 b hb => ?_⟩
  obtain ⟨i, rfl⟩ := Int.eq_ofNat_of_zero_le h1
  have hi : fns[i]? = some (fns[i]'(by omega)) := by simp [show i < fns.length from by omega]
  rw [cg_eq hi] at hb
  exact calls_mem (B.fn _ (List.mem_of_getElem? hi)) hb
theorem turn_add2 {h : MH} {p s : Nat} {ks st : List Int} {y : Int} {a : Option MV} {rt : Rt} {N : Env' → MH → Prop} {R : MV → MH → Prop} (D : Dst mh h p s ks st) (hk : ks.length < 100) (hs : st.length < 100)
    (k1 : y ∈ ks → N [a, some (.loc p), some (.loc s), some (.int y)] h) (k2 : y ∉ ks → N [a, some (.loc p), some (.loc s), some (.int y)] ((h.set p (dKeys (ks ++ [y]))).set s (lints (st ++ [y])))) :
    Os (fb_functions_reached_1 rt [a, some (.loc p), some (.loc s), some (.int y)] h) N R := by
  unfold fb_functions_reached_1
  have g1 := D.gp
  have g2 := D.gs
  have hne := neq_of_get g1 g2
  walk_at "ev"
  refine Op_notinD g1 rfl ?_
  rw [dfind_keys]
  walk_at "ev"
  by_cases hy : y ∈ ks
  · rw [decide_eq_true hy]
    walk_at "ev"
    exact k1 hy
  · rw [decide_eq_false hy]
    walk_at "ev"
    rw [stIx_d g1 rfl (by simp; omega), dput_new hy]
    walk_at "ev"
    have g3 := get_other (x := dKeys (ks ++ [y])) g2 hne
    refine OM_l g3 ?_
    walk_at "ev"
    refine Op_append g3 (by simp; omega) ?_
    walk_at "ev"
    rw [show MO.lst (st.map MV.int ++ [MV.int y]) = lints (st ++ [y]) from by simp [lints]]
    exact k2 hy
/-- all ways of one row -/
theorem calls_loop {h : MH} {p s w c : Nat} {g : Int → List Int} {a0 : Int} {ks st : List Int} {a z : Option MV} {rt : Rt} {N : Nat} {Nn : Env' → MH → Prop} {R : MV → MH → Prop} (hN : Inn g N) (hN2 : N < 50)
    (D : Dst mh h p s ks st) (hw : h[w]? = some (lints (g a0))) (hwp : w ≠ p) (hws : w ≠ s) (A : Amid g a0 (g a0) ks st) (hc : st.length + c = ks.length) (hF : (g a0).length < F)
    (k : ∀ h ks st z, Dst mh h p s ks st → Dfs g ks st → st.length + c = ks.length → Nn [a, some (.loc p), some (.loc s), z] h) :
    Os (forL (nxtL w) (nameG 3) fb_functions_reached_1 rt F 0 [a, some (.loc p), some (.loc s), z] h) Nn R := by
  refine Os_forL (fun i e h => ∃ ks st z, e = [a, some (.loc p), some (.loc s), z] ∧ Dst mh h p s ks st ∧ h[w]? = some (lints (g a0)) ∧ Amid g a0 ((g a0).drop i) ks st ∧ st.length + c = ks.length) (g a0).length ?_ ?_ (g a0).length F 0 _ _ (by omega) hF ⟨ks, st, z, rfl, D, hw, A, hc⟩
  · rintro i e h hi ⟨ks, st, z, rfl, D, hw, A, hc⟩
    have hg : (g a0)[i]? = some (g a0)[i] := by simp [hi]
    have hd : (g a0).drop i = (g a0)[i] :: (g a0).drop (i + 1) := List.drop_eq_getElem_cons hi
    generalize (g a0)[i] = y at hg hd
    rw [hd] at A
    refine ⟨.int y, by rw [nxtL_at hw, List.getElem?_map, hg]; rfl, ?_⟩
    walk_at "ev"
    have hl := A.len hN
    refine turn_add2 D (by omega) (by omega) (fun hy => ⟨ks, st, _, rfl, D, hw, A.skip hy, hc⟩) (fun hy => ⟨ks ++ [y], st ++ [y], _, rfl, D.add, ?_, A.add hy, by simp; omega⟩)
    rw [List.getElem?_set_ne (Ne.symm hws), List.getElem?_set_ne (Ne.symm hwp)]
    exact hw
  · rintro e h ⟨ks, st, z, rfl, D, hw, A, hc⟩
    refine ⟨by rw [nxtL_at hw]; simp, ?_⟩
    rw [List.drop_of_length_le (Nat.le_refl _)] at A
    exact k h ks st z D A.end hc
theorem o_functions_reached (B : BkOk d r fns) (hF : 60 ≤ F) (q : ∀ n h, Pre mh h → mh.length ≤ n → h[n]? = some (lints (clo (cg fns))) → IsClo (cg fns) (clo (cg fns)) → Q (.loc n) h) : Ok (rp F (k + 6) i_functions_reached [encB d r fns] mh) Q := by
  refine r_functions_reached rfl ?_
  unfold d_functions_reached
  have hN := B.inn
  have h12 := B.f6
  walk_at "ev"
  refine ⟨get_new _ _, rfl, ?_⟩
  walk_at "ev"
  have D0 : Dst mh (List.set (mh ++ [.dct []]) mh.length (dKeys [0]) ++ [MO.lst [MV.int 0]]) mh.length (List.set (mh ++ [.dct []]) mh.length (dKeys [0])).length [0] [0] := by
    refine ⟨((Pre.app _).set (Nat.le_refl _)).snoc _, Nat.le_refl _, by simp, ?_, get_new _ _⟩
    exact get_old (get_set (get_new _ _))
  have e0 : MO.dct (dmerge [] [(MV.int 0, MV.bl true)]) = dKeys [0] := rfl
  rw [e0]
  generalize List.set (mh ++ [.dct []]) mh.length (dKeys [0]) ++ [MO.lst [MV.int 0]] = h1 at *
  generalize (List.set (mh ++ [.dct []]) mh.length (dKeys [0])).length = s at *
  clear e0
  refine Os_whileL (fun m e h => ∃ ks st z c, e = [some (encB d r fns), some (.loc mh.length), some (.loc s), z] ∧ Dst mh h mh.length s ks st ∧ Dfs (cg fns) ks st ∧ st.length + c = ks.length ∧ m + c = fns.length) ?_ F fns.length _ _ (by omega) ⟨[0], [0], none, 0, rfl, D0, .start _, rfl, rfl⟩
  rintro m e h ⟨ks, st, z, c, rfl, D, S, hc, hm⟩
  unfold wc_functions_reached_0
  walk_at "ev"
  refine Op_neEmpty (get_old D.gs) (get_new _ _) ?_
  walk_at "ev"
  have D := D.mono (.app [.lst []])
  rcases nil_or st with rfl | ⟨st', a, rfl⟩
  · walk_at "ev"
    have hl := S.len hN
    refine Op_sortedD (ns := ks) D.gp (by simp) (by omega) ?_
    have cl := S.done
    refine q _ _ (D.pre.snoc _) (by have := D.pre.le; simp at this ⊢; omega) (by rw [clo_eq cl]; exact get_new _ _) (by rw [clo_eq cl]; exact cl)
  · rw [snoc_empty]
    walk_at "ev"
    unfold wb_functions_reached_2
    have ha := (S.rc a (S.sub a (by simp))).inn hN
    obtain ⟨i, rfl⟩ := Int.eq_ofNat_of_zero_le ha.1
    have hi : fns[i]? = some fns[i] := by simp
    generalize fns[i] = rows at hi
    have H := B.fn rows (List.mem_of_getElem? hi)
    have g2 := D.gs
    rw [snoc_ints] at g2
    walk_at "ev"
    refine Op_pop g2 ?_
    have D := D.pop
    walk_at "ev"
    refine o_calls_of hi H hF ?_
    intro w h2 hp2 hw2 hw3
    have hl1 := lt_of_get D.gp
    have hl2 := lt_of_get D.gs
    rw [List.length_set] at hl1 hl2 hw2
    have D := D.mono hp2
    walk_at "ev"
    have hne := neq_of_get D.gp D.gs
    have A := S.pop
    have hl := S.len hN
    have hc : st'.length + 1 + c = ks.length := by simpa using hc
    have hwl := callsOf_len H
    rw [← cg_eq hi] at hwl hw3
    refine calls_loop (c := c + 1) hN (by omega) D hw3 (by omega) (by omega) A (by omega) (by omega) ?_
    intro h3 ks3 st3 z3 D3 S3 hc3
    walk_at "ev"
    have hl3 := S3.len hN
    exact ⟨fns.length - (c + 1), by omega, ks3, st3, z3, c + 1, rfl, D3, S3, hc3, by omega⟩
/-! ### frames -/
def frM : Option Nat → MV
  | none => .non
  | some i => .int i
theorem extend_ints {h : MH} {l w : Nat} {xs ys : List Int} {Q : MV → MH → Prop} (e1 : h[l]? = some (lints xs)) (e2 : h[w]? = some (lints ys)) (hl : xs.length + ys.length ≤ 100000) (k : Q .non (h.set l (lints (xs ++ ys)))) : Op (extendM (.loc l) [.loc w] h) Q := by
  refine Op_extend e1 e2 (by simp; omega) ?_
  rw [← List.map_append]
  exact k
theorem o_frames (B : BkOk d r fns) (hF : 60 ≤ F) (q : ∀ o h, Pre mh h → FrOk (cg fns) fns.length o → Q (frM o) h) : Ok (rp F (k + 6) i_frames_of_calls [encB d r fns] mh) Q := by
  refine r_frames_of_calls rfl ?_
  unfold d_frames_of_calls
  have hN := B.inn
  have h6 := B.f6
  have hle := encFs_len fns 0
  walk_at "ev"
  refine Os_whileL (fun m e h => ∃ i a z1 z2, e = [some (encB d r fns), some (.int (i : Nat)), some (.loc a), z1, z2] ∧ Pre mh h ∧ mh.length ≤ a ∧ h[a]? = some (lints (wave (cg fns) i)) ∧ i ≤ fns.length ∧ (∀ j, j < i → wave (cg fns) j ≠ []) ∧ m + i = fns.length) ?_ F fns.length _ _ (by omega) ⟨0, _, _, _, rfl, .app _, Nat.le_refl _, get_new _ _, by omega, fun j hj => by omega, rfl⟩
  rintro m e h ⟨i, a, z1, z2, rfl, hp, ha, hg, hi, hj, hm⟩
  unfold wc_frames_of_calls_0
  walk_at "ev"
  refine Op_neEmpty (get_old hg) (get_new _ _) ?_
  walk_at "ev"
  have hlw := wave_len hN i
  have hin := wave_inn hN i
  have hg := get_old (x := .lst []) hg
  have hp := hp.snoc (.lst [])
  generalize h ++ [MO.lst []] = h1 at *
  by_cases hw : wave (cg fns) i = []
  · rw [hw]
    walk_at "ev"
    exact q (some i) _ hp (.inl ⟨i, rfl, hi, hw, hj⟩)
  · rw [show (wave (cg fns) i).isEmpty = false from by cases h : wave (cg fns) i with
      | nil => exact absurd h hw
      | cons _ _ => rfl]
    walk_at "ev"
    unfold wb_frames_of_calls_2
    walk_at "ev"
    rw [hle]
    by_cases hlt : i < fns.length
    · walk_at "ev"
      refine Os_forX (xs := (wave (cg fns) i).map .int) (fun t e h => ∃ z, e = [some (encB d r fns), some (.int ((i : Int) + 1)), some (.loc a), some (.loc h1.length), z] ∧ Pre h1 h ∧ h[h1.length]? = some (lints (((wave (cg fns) i).take t).flatMap (cg fns)))) ?_ ?_ ?_ F (by simp; omega) ⟨_, rfl, .app _, get_new _ _⟩
      · rintro t e h ⟨z, rfl, hp2, hg2⟩
        exact nxtL_at (hp2.get hg) t
      · rintro t e h v hv ⟨z, rfl, hp2, hg2⟩
        rw [List.getElem?_map] at hv
        obtain ⟨y, hy, rfl⟩ := Option.map_eq_some_iff.mp hv
        walk_at "ev"
        unfold fb_frames_of_calls_1
        have hb := hin y (List.mem_of_getElem? hy)
        obtain ⟨g, rfl⟩ := Int.eq_ofNat_of_zero_le hb.1
        have hgf : fns[g]? = some (fns[g]'(by omega)) := by simp [show g < fns.length from by omega]
        generalize fns[g]'(by omega) = rows at hgf
        have H := B.fn rows (List.mem_of_getElem? hgf)
        walk_at "ev"
        refine o_calls_of hgf H hF ?_
        intro w h3 hp3 hw3 hg3
        walk_at "ev"
        have hcl := callsOf_len H
        have hfl : (((wave (cg fns) i).take t).flatMap (cg fns)).length ≤ ((wave (cg fns) i).take t).length * 6 := flat_len fun x hx => by
          have hb := hin x (List.mem_of_mem_take hx)
          obtain ⟨g, rfl⟩ := Int.eq_ofNat_of_zero_le hb.1
          have hgf : fns[g]? = some (fns[g]'(by omega)) := by simp [show g < fns.length from by omega]
          rw [cg_eq hgf]
          exact Nat.le_trans (callsOf_len (B.fn _ (List.mem_of_getElem? hgf))) h6
        have htl : ((wave (cg fns) i).take t).length ≤ 6 := by rw [List.length_take]; omega
        refine extend_ints (hp3.get hg2) hg3 (by omega) ?_
        walk_at "ev"
        have ht : (wave (cg fns) i).take (t + 1) = (wave (cg fns) i).take t ++ [(g : Int)] := by
          rw [List.take_add_one, hy]; rfl
        refine ⟨(hp2.trans hp3).set (Nat.le_refl _), ?_⟩
        rw [ht, List.flatMap_append, List.flatMap_singleton, cg_eq hgf]
        exact get_set (hp3.get hg2)
      · rintro e h ⟨z, rfl, hp2, hg2⟩
        rw [List.length_map, List.take_length] at hg2
        walk_at "ev"
        have hfl : ((wave (cg fns) i).flatMap (cg fns)).length ≤ (wave (cg fns) i).length * 6 := flat_len fun x hx => by
          have hb := hin x hx
          obtain ⟨g, rfl⟩ := Int.eq_ofNat_of_zero_le hb.1
          have hgf : fns[g]? = some (fns[g]'(by omega)) := by simp [show g < fns.length from by omega]
          rw [cg_eq hgf]
          exact Nat.le_trans (callsOf_len (B.fn _ (List.mem_of_getElem? hgf))) h6
        refine Op_srtset hg2 (by omega) ?_
        walk_at "ev"
        refine ⟨m - 1, by omega, i + 1, _, _, _, rfl, (hp.trans hp2).snoc _, by have := hp.le; have := hp2.le; omega, get_new _ _, by omega, fun j h => ?_, by omega⟩
        by_cases hji : j = i
        · subst hji; exact hw
        · exact hj j (by omega)
    · walk_at "ev"
      refine q none _ hp (.inr ⟨rfl, fun j h => ?_⟩)
      by_cases hji : j = i
      · subst hji; exact hw
      · exact hj j (by omega)
end K23
end L2
end
section
/-! K23J: what is asked of the program. -/
namespace L2
namespace K23
open PySem PySem.Spec PyProof.Rows L2.Vf
-- simp: encR_test
-- simp: encR_call
-- simp: encR_go
-- simp: encR_ret
-- simp: encR_oth
-- simp: encF
set_option hygiene false
local macro_rules | `(tactic| walk_at "hget") => `(tactic| first | assumption | exact get_new _ _ | (refine get_old ?_; first | assumption | exact get_new _ _ | (refine get_old ?_; first | assumption | exact get_new _ _ | (refine get_old ?_; first | assumption | exact get_new _ _))))
local macro_rules | `(tactic| walk_at "pre") => `(tactic| first | assumption | exact Pre.refl | exact Pre.app _ | (refine Pre.snoc ?_ _; first | assumption | exact Pre.refl | exact Pre.app _ | (refine Pre.snoc ?_ _; first | assumption | exact Pre.refl | exact Pre.app _)))
local macro_rules | `(tactic| walk_at "ev1") => `(tactic| first
  | (with_reducible refine Os_seqC ?_; intro N' hN') | simp only [↓eqB_, ↓eqI_, ↓eqT_, ↓eqV_, ↓eqM_, ↓eqH_, ↓eqNt, ↓eqNf, ↓eqNs, ↓eqCt, ↓eqCf, ↓eqCn, ↓eqOp, ↓okE_ok, ↓okE_var, ↓okE_con, ↓okE_op1, ↓okE_op2, ↓okE_opN, ↓okE_nil, ↓okE_cons, ↓okE_if, ↓okE_andV, ↓okE_orV, ↓okE_notV, ↓okE_chain, ↓okE_bool, ↓okE_tru, ↓okE_and, ↓okE_or, ↓okE_not, ↓okE_ifB, ↓okE_yes, ↓okE_call, ↓okE_callK, ↓okE_meth, ↓okE_meth0, ↓okE_noPart, ↓okE_part, ↓okE_slice, ↓okE_any, ↓okE_rng1, ↓okE_lc, ↓okE_dnew, ↓okE_pnil, ↓okE_pcons, ↓osE_expr, ↓osE_set, ↓osE_ret, ↓osE_retN, ↓osE_pass, ↓osE_if, ↓osE_asg, ↓osE_sub, ↓okE_disp, ↓osE_name, ↓osE_nilG, ↓osE_consGn, ↓osE_tupT, ↓osE_tupP, ↓osE_par2, ↓osE_par3, ↓osE_for, ↓osE_while, p_isi_non1, p_isi_non2, p_isi_non3, p_isi_non4, p_isi_non5, p_isi_non6, p_isi_bl1, p_isi_bl2, p_isi_bl3, p_isi_bl4, p_isi_bl5, p_isi_bl6, p_isi_int1, p_isi_int2, p_isi_int3, p_isi_int4, p_isi_int5, p_isi_int6, p_isi_str1, p_isi_str2, p_isi_str3, p_isi_str4, p_isi_str5, p_isi_str6, p_isi_tup1, p_isi_tup2, p_isi_tup3, p_isi_tup4, p_isi_tup5, p_isi_tup6, p_isi_fl1, p_isi_fl2, p_isi_fl3, p_isi_fl4, p_isi_fl5, p_isi_fl6, p_ix0, p_ix1, p_ix2, p_ix3, p_ix4, p_ix5, p_ix6, p_ix7, p_lenT, p_lt, p_le, p_gt, p_ge, p_eqI, p_neI, p_eqS, p_neS, p_add, p_sub, p_is_non, p_isnot_non, p_is_bl, p_isnot_bl, p_is_int, p_isnot_int, p_is_str, p_isnot_str, p_is_tup, p_isnot_tup, p_is_fl, p_isnot_fl, p_is_loc, p_isnot_loc, p_trB, p_trN, p_trT0, p_trT, p_tup0, p_lst0, p_tup1, p_lst1, p_tup2, p_lst2, p_tup3, p_lst3, p_tup4, p_lst4, p_tup5, p_lst5, p_tup6, p_lst6, p_tup7, p_lst7, p_tup8, p_lst8, p_int, p_abs, v0, wipeE, List.length_cons, List.length_nil, List.length_map, List.map_cons, List.map_nil, List.cons_append, List.nil_append, List.replicate, List.getElem?_cons_succ, List.getElem?_cons_zero, List.set_cons_zero, List.set_cons_succ, Nat.reduceAdd, Nat.reduceSub, Int.cast_ofNat_Int, Int.reduceEq, Int.reduceLE, Int.reduceLT, Int.reduceAdd, Int.reduceSub, Int.reduceNeg, Nat.reduceEqDiff, decide_true, decide_false, Bool.not_true, Bool.not_false, true_and, and_true, and_self, g_BOOK, g_FUNCTION, g_WORD, g_LINK, g_KINDS, g_VAL, g_NEXT, g_LEAST_WIDTH, g_MOST_WIDTH, g_MOST_DEPTH, g_MOST_ROOM, g_MOST_FUNCTIONS, g_MOST_PARAMS, g_MOST_NAMES, g_MOST_BOOK_ROWS, g_MOST_TERM_DEEP, g_MOST_TITLE, kw_row_ways_0, kw_called_by_0, kw_reached_rows_0, kw_frames_wanted_0, encR_test, encR_call, encR_go, encR_ret, encR_oth, encF]
  | ((with_reducible show Cd _ _ _); first | refine Cd_pos rfl ?_ | refine Cd_neg rfl ?_ | refine Cd_pos (decide_eq_true (by omega)) ?_ | refine Cd_neg (decide_eq_false (by omega)) ?_ | refine Cd_pos (by assumption) ?_ | refine Cd_neg (by assumption) ?_)
  | ((with_reducible show Op _ _); first | with_reducible refine Op_ixT (by assumption) ?_ | ((with_reducible show Op (ixM (.loc _) _ _) _); refine Op_ix (by walk_at "hget") (by assumption) ?_) | ((with_reducible show Op (getDM (.loc _) _ _) _); first | refine Op_getS (by walk_at "hget") rfl rfl ?_ | refine Op_getN (by walk_at "hget") rfl rfl ?_) | ((with_reducible show Op (inM (.str _) _ _) _); refine Op_inTup (xs := _) rfl rfl rfl rfl ?_) | ((with_reducible show Op (notinM (.str _) _ _) _); refine Op_notinTup (xs := _) rfl rfl rfl rfl ?_) | refine Op_mk rfl ?_)
  | ((with_reducible refine hN' _ _ ?_); clear hN') | (clear hN'; (with_reducible refine hN' _ _ ?_); clear hN') | (clear hN'; clear hN'; (with_reducible refine hN' _ _ ?_); clear hN') | ((with_reducible show Q _ _); first | exact q | refine q _ ?_ | refine q _ _ ?_ ?_ ?_ | refine q _ _ ?_ ?_)
  | ((with_reducible show Pre _ _); walk_at "pre") | ((with_reducible show ON _ _ _); refine ON_l (by walk_at "hget") ?_) | ((with_reducible show OM _ _); first | refine OM_l (by walk_at "hget") ?_ | refine OM_d (by walk_at "hget") ?_) | ((with_reducible show (_ = _ ∧ _ = _ ∧ _ = _) ∧ _); refine ⟨⟨rfl, rfl, rfl⟩, ?_⟩)
  | ((with_reducible show ∃ _, _ = _ ∧ _); refine ⟨_, rfl, ?_⟩))
local macro_rules | `(tactic| walk_at "ev") => `(tactic| repeat walk_at "ev1")
local macro_rules | `(tactic| walk_at "ev1") => `(tactic| ((with_reducible show Ok (rp _ _ _ _ _) _); first | with_reducible refine o_is_integer ?_ | with_reducible refine o_is_within (by omega) (by omega) ?_ | ((with_reducible show Ok (rp _ _ i_is_tuple _ _) _); refine o_is_tuple rfl ?_) | ((with_reducible show Ok (rp _ _ i_is_kind _ _) _); refine o_is_kind (by first | exact .inl rfl | exact .inr rfl) ?_) | ((with_reducible show Ok (rp _ _ i_is_worded_row _ _) _); refine o_worded rfl ?_) | ((with_reducible show Ok (rp _ _ i_is_named _ _) _); refine r_is_named rfl ?_; unfold d_is_named) | ((with_reducible show Ok (rp _ _ i_rows_of_function _ _) _); refine r_rows_of_function rfl ?_; unfold d_rows_of_function)))
variable {F k : Nat} {mh : MH} {Q : MV → MH → Prop} {d r f n : Nat} {fns : List (List Rw)} {rows : List Rw}
theorem o_row_ways {i : Nat} {row : Rw} (B : BkOk d r fns) (hf : fns[f]? = some rows) (hi : rows[i]? = some row) (hF : 60 ≤ F) (q : ∀ n h, Pre mh h → mh.length ≤ n → h[n]? = some (lints (ways rows i)) → Q (.loc n) h) : Ok (rp F (k + 10) i_row_ways [encB d r fns, .int f, .int i] mh) Q := by
  refine r_row_ways rfl ?_
  unfold d_row_ways
  have e := fn_get hf
  have hlf := (List.getElem?_eq_some_iff.mp hf).1
  have hli := (List.getElem?_eq_some_iff.mp hi).1
  have H := B.fn rows (List.mem_of_getElem? hf)
  walk_at "ev"
  refine o_want_function B hlf (by omega) ?_
  intro h hp
  walk_at "ev"
  refine o_ways_of_row hf hi (H.rw_ _ (List.mem_of_getElem? hi)) ?_
  intro n h2 hp2 hn hg
  exact q n h2 (hp.trans hp2) (by have := hp.le; omega) hg
theorem o_called_by (B : BkOk d r fns) (hf : fns[f]? = some rows) (hF : 60 ≤ F) (q : ∀ n h, Pre mh h → mh.length ≤ n → h[n]? = some (lints (callsOf rows)) → Q (.loc n) h) : Ok (rp F (k + 10) i_called_by [encB d r fns, .int f] mh) Q := by
  refine r_called_by rfl ?_
  unfold d_called_by
  have hlf := (List.getElem?_eq_some_iff.mp hf).1
  have H := B.fn rows (List.mem_of_getElem? hf)
  walk_at "ev"
  refine o_want_function B hlf (by omega) ?_
  intro h hp
  walk_at "ev"
  refine o_calls_of hf H hF ?_
  intro n h2 hp2 hn hg
  exact q n h2 (hp.trans hp2) (by have := hp.le; omega) hg
theorem o_frames_wanted (B : BkOk d r fns) (hF : 60 ≤ F) (q : ∀ o h, Pre mh h → FrOk (cg fns) fns.length o → Q (frM o) h) : Ok (rp F (k + 9) i_frames_wanted [encB d r fns] mh) Q := by
  refine r_frames_wanted rfl ?_
  unfold d_frames_wanted
  walk_at "ev"
  refine o_want_book B (by omega) ?_
  intro h hp
  walk_at "ev"
  refine o_frames B hF ?_
  intro o h2 hp2 ho
  exact q o h2 (hp.trans hp2) ho
theorem clo_is {g : Int → List Int} {N : Nat} (hN : Inn g N) : IsClo g (clo g) := by
  obtain ⟨ys, h⟩ := clo_ex hN
  rw [clo_eq h]
  exact h
noncomputable def reachOf (fns : List (List Rw)) (f : Int) : List Int := match fns[f.toNat]? with
  | some rows => clo (ways rows)
  | none => []
theorem reachOf_eq {i : Nat} (h : fns[i]? = some rows) : reachOf fns (i : Int) = clo (ways rows) := by
  unfold reachOf
  rw [Int.toNat_natCast, h]
noncomputable def rowsM (fns : List (List Rw)) (f : Int) : List MV := (reachOf fns f).map fun a => .tup [.int f, .int a]
theorem clo_len {g : Int → List Int} {N : Nat} (hN : Inn g N) (c : IsClo g (clo g)) : (clo g).length ≤ N := by
  have := asc_len (l := clo g) (a := 0) (N := N) c.srt fun x hx => ((c.mem x).mp hx).inn hN
  omega
theorem o_reached_rows (B : BkOk d r fns) (hF : 60 ≤ F) (q : ∀ n h, Pre mh h → mh.length ≤ n → h[n]? = some (.lst ((clo (cg fns)).flatMap (rowsM fns))) → IsClo (cg fns) (clo (cg fns)) → Q (.loc n) h) : Ok (rp F (k + 9) i_reached_rows [encB d r fns] mh) Q := by
  refine r_reached_rows rfl ?_
  unfold d_reached_rows
  have hN := B.inn
  have h6 := B.f6
  walk_at "ev"
  refine o_want_book B (by omega) ?_
  intro h hp
  walk_at "ev"
  refine o_functions_reached B hF ?_
  intro w h2 hp2 hw hg cl
  walk_at "ev"
  have hcl := clo_len hN cl
  have hg0 := hp2.get (get_new h (.lst []))
  have hpl := hp.le
  have hp := (hp.snoc (.lst [])).trans hp2
  rw [List.length_append, List.length_singleton] at hw
  generalize h.length = l at *
  refine Os_forX (xs := (clo (cg fns)).map .int) (fun t e h3 => ∃ z1 z2, e = [some (encB d r fns), some (.loc l), z1, z2] ∧ Pre1 l h2 h3 ∧ h3[l]? = some (.lst (((clo (cg fns)).take t).flatMap (rowsM fns)))) ?_ ?_ ?_ F (by simp; omega) ⟨_, _, rfl, .refl, hg0⟩
  · rintro t e h3 ⟨z1, z2, rfl, hp3, hg3⟩
    exact nxtL_at (hp3.get hg (by omega)) t
  · rintro t e h3 v hv ⟨z1, z2, rfl, hp3, hg3⟩
    rw [List.getElem?_map] at hv
    obtain ⟨y, hy, rfl⟩ := Option.map_eq_some_iff.mp hv
    walk_at "ev"
    unfold fb_reached_rows_1
    have hb := ((cl.mem y).mp (List.mem_of_getElem? hy)).inn hN
    obtain ⟨g, rfl⟩ := Int.eq_ofNat_of_zero_le hb.1
    have hgf : fns[g]? = some (fns[g]'(by omega)) := by simp [show g < fns.length from by omega]
    generalize fns[g]'(by omega) = rows at hgf
    have H := B.fn rows (List.mem_of_getElem? hgf)
    walk_at "ev"
    refine o_rows_from_begin hgf H hF ?_
    intro w4 h4 hp4 hw4 hg4 cl4
    walk_at "ev"
    have hl4 := clo_len H.inn cl4
    have h12 := H.le
    obtain ⟨m, e5, p5⟩ := lc_map (nxt := nxtL w4) (g := nameG 3) (te := ce_reached_rows_0) (rt := ⟨rp F (k + 8), F⟩) (env := [some (encB d r fns), some (.loc l), some (.int g), none]) (mh := h4) (xs := (clo (ways rows)).map .int) (F := F) (fun v => .tup [.int g, v])
      (by simp; omega) (by simp; omega) (fun h hp i => nxtL_at (hp.get hg4) i) (fun x hx h hp => by
        refine ⟨_, rfl, ?_⟩
        unfold ce_reached_rows_0
        walk_at "ev")
    refine ⟨_, _, e5, ?_⟩
    have hfl : (((clo (cg fns)).take t).flatMap (rowsM fns)).length ≤ ((clo (cg fns)).take t).length * 12 := flat_len fun x hx => by
      have hb := ((cl.mem x).mp (List.mem_of_mem_take hx)).inn hN
      obtain ⟨g, rfl⟩ := Int.eq_ofNat_of_zero_le hb.1
      have hgf : fns[g]? = some (fns[g]'(by omega)) := by simp [show g < fns.length from by omega]
      have H := B.fn _ (List.mem_of_getElem? hgf)
      unfold rowsM
      rw [List.length_map, reachOf_eq hgf]
      exact Nat.le_trans (clo_len H.inn (clo_is H.inn)) H.le
    have htl : ((clo (cg fns)).take t).length ≤ 6 := by rw [List.length_take]; omega
    have hg5 := p5.get (hp4.get hg3)
    refine Op_extend (get_old hg5) (get_new _ _) (by rw [List.length_map, List.length_map]; omega) ?_
    have hle4 := hp4.le
    have hle5 := p5.le
    have hlt3 := lt_of_get hg3
    walk_at "ev"
    refine ⟨_, _, rfl, (((hp3.trans hp4.one).trans p5.one).snoc _).put _, ?_⟩
    have ht : (clo (cg fns)).take (t + 1) = (clo (cg fns)).take t ++ [(g : Int)] := by
      rw [List.take_add_one, hy]; rfl
    rw [ht, List.flatMap_append, List.flatMap_singleton]
    have er : rowsM fns (g : Int) = (clo (ways rows)).map fun a => .tup [.int g, .int a] := by
      unfold rowsM
      rw [reachOf_eq hgf]
    rw [er, List.map_map]
    exact get_set (get_old hg5)
  · rintro e h3 ⟨z1, z2, rfl, hp3, hg3⟩
    rw [List.length_map, List.take_length] at hg3
    walk_at "ev"
    refine q l h3 ((hp.one.trans hp3).whole hpl) hpl hg3 cl
end K23
end L2
end
section
/-! K23K: the law's own ways, closed sets, frames. -/
namespace L2
namespace K23
open PySem PySem.Spec PyProof.Rows L2.Vf
-- simp: encR_test
-- simp: encR_call
-- simp: encR_go
-- simp: encR_ret
-- simp: encR_oth
-- simp: encF
set_option hygiene false
local macro_rules | `(tactic| walk_at "hget") => `(tactic| first | assumption | exact get_new _ _ | (refine get_old ?_; first | assumption | exact get_new _ _ | (refine get_old ?_; first | assumption | exact get_new _ _ | (refine get_old ?_; first | assumption | exact get_new _ _))))
local macro_rules | `(tactic| walk_at "pre") => `(tactic| first | assumption | exact Pre.refl | exact Pre.app _ | (refine Pre.snoc ?_ _; first | assumption | exact Pre.refl | exact Pre.app _ | (refine Pre.snoc ?_ _; first | assumption | exact Pre.refl | exact Pre.app _)))
local macro_rules | `(tactic| walk_at "ev1") => `(tactic| first
  | (with_reducible refine Os_seqC ?_; intro N' hN') | simp only [↓eqB_, ↓eqI_, ↓eqT_, ↓eqV_, ↓eqM_, ↓eqH_, ↓eqNt, ↓eqNf, ↓eqNs, ↓eqCt, ↓eqCf, ↓eqCn, ↓eqOp, ↓okE_ok, ↓okE_var, ↓okE_con, ↓okE_op1, ↓okE_op2, ↓okE_opN, ↓okE_nil, ↓okE_cons, ↓okE_if, ↓okE_andV, ↓okE_orV, ↓okE_notV, ↓okE_chain, ↓okE_bool, ↓okE_tru, ↓okE_and, ↓okE_or, ↓okE_not, ↓okE_ifB, ↓okE_yes, ↓okE_call, ↓okE_callK, ↓okE_meth, ↓okE_meth0, ↓okE_noPart, ↓okE_part, ↓okE_slice, ↓okE_any, ↓okE_rng1, ↓okE_lc, ↓okE_dnew, ↓okE_pnil, ↓okE_pcons, ↓osE_expr, ↓osE_set, ↓osE_ret, ↓osE_retN, ↓osE_pass, ↓osE_if, ↓osE_asg, ↓osE_sub, ↓okE_disp, ↓osE_name, ↓osE_nilG, ↓osE_consGn, ↓osE_tupT, ↓osE_tupP, ↓osE_par2, ↓osE_par3, ↓osE_for, ↓osE_while, p_isi_non1, p_isi_non2, p_isi_non3, p_isi_non4, p_isi_non5, p_isi_non6, p_isi_bl1, p_isi_bl2, p_isi_bl3, p_isi_bl4, p_isi_bl5, p_isi_bl6, p_isi_int1, p_isi_int2, p_isi_int3, p_isi_int4, p_isi_int5, p_isi_int6, p_isi_str1, p_isi_str2, p_isi_str3, p_isi_str4, p_isi_str5, p_isi_str6, p_isi_tup1, p_isi_tup2, p_isi_tup3, p_isi_tup4, p_isi_tup5, p_isi_tup6, p_isi_fl1, p_isi_fl2, p_isi_fl3, p_isi_fl4, p_isi_fl5, p_isi_fl6, p_ix0, p_ix1, p_ix2, p_ix3, p_ix4, p_ix5, p_ix6, p_ix7, p_lenT, p_lt, p_le, p_gt, p_ge, p_eqI, p_neI, p_eqS, p_neS, p_add, p_sub, p_is_non, p_isnot_non, p_is_bl, p_isnot_bl, p_is_int, p_isnot_int, p_is_str, p_isnot_str, p_is_tup, p_isnot_tup, p_is_fl, p_isnot_fl, p_is_loc, p_isnot_loc, p_trB, p_trN, p_trT0, p_trT, p_tup0, p_lst0, p_tup1, p_lst1, p_tup2, p_lst2, p_tup3, p_lst3, p_tup4, p_lst4, p_tup5, p_lst5, p_tup6, p_lst6, p_tup7, p_lst7, p_tup8, p_lst8, p_int, p_abs, v0, wipeE, List.length_cons, List.length_nil, List.length_map, List.map_cons, List.map_nil, List.cons_append, List.nil_append, List.replicate, List.getElem?_cons_succ, List.getElem?_cons_zero, List.set_cons_zero, List.set_cons_succ, Nat.reduceAdd, Nat.reduceSub, Int.cast_ofNat_Int, Int.reduceEq, Int.reduceLE, Int.reduceLT, Int.reduceAdd, Int.reduceSub, Int.reduceNeg, Nat.reduceEqDiff, decide_true, decide_false, Bool.not_true, Bool.not_false, true_and, and_true, and_self, g_BOOK, g_FUNCTION, g_WORD, g_LINK, g_KINDS, g_VAL, g_NEXT, g_LEAST_WIDTH, g_MOST_WIDTH, g_MOST_DEPTH, g_MOST_ROOM, g_MOST_FUNCTIONS, g_MOST_PARAMS, g_MOST_NAMES, g_MOST_BOOK_ROWS, g_MOST_TERM_DEEP, g_MOST_TITLE, kw_row_ways_0, kw_called_by_0, kw_reached_rows_0, kw_frames_wanted_0, encR_test, encR_call, encR_go, encR_ret, encR_oth, encF]
  | ((with_reducible show Cd _ _ _); first | refine Cd_pos rfl ?_ | refine Cd_neg rfl ?_ | refine Cd_pos (decide_eq_true (by omega)) ?_ | refine Cd_neg (decide_eq_false (by omega)) ?_ | refine Cd_pos (by assumption) ?_ | refine Cd_neg (by assumption) ?_)
  | ((with_reducible show Op _ _); first | with_reducible refine Op_ixT (by assumption) ?_ | ((with_reducible show Op (ixM (.loc _) _ _) _); refine Op_ix (by walk_at "hget") (by assumption) ?_) | ((with_reducible show Op (getDM (.loc _) _ _) _); first | refine Op_getS (by walk_at "hget") rfl rfl ?_ | refine Op_getN (by walk_at "hget") rfl rfl ?_) | ((with_reducible show Op (inM (.str _) _ _) _); refine Op_inTup (xs := _) rfl rfl rfl rfl ?_) | ((with_reducible show Op (notinM (.str _) _ _) _); refine Op_notinTup (xs := _) rfl rfl rfl rfl ?_) | refine Op_mk rfl ?_)
  | ((with_reducible refine hN' _ _ ?_); clear hN') | (clear hN'; (with_reducible refine hN' _ _ ?_); clear hN') | (clear hN'; clear hN'; (with_reducible refine hN' _ _ ?_); clear hN') | ((with_reducible show Q _ _); first | exact q | refine q _ ?_ | refine q _ _ ?_ ?_ ?_ | refine q _ _ ?_ ?_)
  | ((with_reducible show Pre _ _); walk_at "pre") | ((with_reducible show ON _ _ _); refine ON_l (by walk_at "hget") ?_) | ((with_reducible show OM _ _); first | refine OM_l (by walk_at "hget") ?_ | refine OM_d (by walk_at "hget") ?_) | ((with_reducible show (_ = _ ∧ _ = _ ∧ _ = _) ∧ _); refine ⟨⟨rfl, rfl, rfl⟩, ?_⟩)
  | ((with_reducible show ∃ _, _ = _ ∧ _); refine ⟨_, rfl, ?_⟩))
local macro_rules | `(tactic| walk_at "ev") => `(tactic| repeat walk_at "ev1")
local macro_rules | `(tactic| walk_at "ev1") => `(tactic| ((with_reducible show Ok (rp _ _ _ _ _) _); first | with_reducible refine o_is_integer ?_ | with_reducible refine o_is_within (by omega) (by omega) ?_ | ((with_reducible show Ok (rp _ _ i_is_tuple _ _) _); refine o_is_tuple rfl ?_) | ((with_reducible show Ok (rp _ _ i_is_kind _ _) _); refine o_is_kind (by first | exact .inl rfl | exact .inr rfl) ?_) | ((with_reducible show Ok (rp _ _ i_is_worded_row _ _) _); refine o_worded rfl ?_) | ((with_reducible show Ok (rp _ _ i_is_named _ _) _); refine r_is_named rfl ?_; unfold d_is_named) | ((with_reducible show Ok (rp _ _ i_rows_of_function _ _) _); refine r_rows_of_function rfl ?_; unfold d_rows_of_function)))
variable {F k : Nat} {mh : MH} {Q : MV → MH → Prop} {d r f n : Nat} {fns : List (List Rw)} {rows : List Rw}
/-- a table of lists -/
structure Tbl (h : MH) (c : Nat) (g : Int → List Int) (n : Nat) (ls : List Nat) : Prop where
  at_ : h[c]? = some (.lst (ls.map .loc))
  len : ls.length = n
  it : ∀ i w, ls[i]? = some w → h[w]? = some (lints (g (i : Nat)))
theorem Tbl.mono {h h2 : MH} {c : Nat} {g : Int → List Int} {ls : List Nat} (T : Tbl h c g n ls) (p : Pre h h2) : Tbl h2 c g n ls := ⟨p.get T.at_, T.len, fun i w e => p.get (T.it i w e)⟩
def notIn (xs : List Int) : MV → Bool
  | .int y => decide (y ∉ xs)
  | _ => false
theorem notIn_map (xs l : List Int) : ((l.map MV.int).filter (notIn xs)).map (fun v => v) = (l.filter fun y => decide (y ∉ xs)).map MV.int := by
  rw [List.map_id', List.filter_map]
  rfl
theorem o_closed {c N D : Nat} {g : Int → List Int} {ls : List Nat} (T : Tbl mh c g N ls) (hN : Inn g N) (hD : ∀ a : Int, 0 ≤ a → a < N → (g a).length ≤ D) (hND : N * D + N < 64) (hF : 70 ≤ F)
    (q : ∀ n h, Pre mh h → mh.length ≤ n → h[n]? = some (lints (clo g)) → Q (.loc n) h) : Ok (rp F (k + 1) i__law_closed [.int 0, .loc c] mh) Q := by
  refine r__law_closed rfl ?_
  unfold d__law_closed
  have hN0 := hN.1
  walk_at "ev"
  refine Os_whileL (fun m e h => ∃ f b xs z4 z5, e = [some (.int 0), some (.loc c), some (.loc f), some (.bl b), z4, z5, none] ∧ Pre mh h ∧ mh.length ≤ f ∧ h[f]? = some (lints xs) ∧ Bfs g xs ∧ (b = false → IsClo g xs) ∧ m = if b then N + 1 - xs.length else 0) ?_ F N _ _ (by omega) ⟨_, true, [0], _, _, rfl, .app _, Nat.le_refl _, get_new _ _, .start g, (fun h => by cases h), (by simp)⟩
  rintro m e h ⟨f, b, xs, z4, z5, rfl, hp, hf, hg, S, hb, hm⟩
  unfold wc__law_closed_0
  have hl := S.len hN
  cases b with
  | false =>
    rw [← clo_eq (hb rfl)] at hg
    walk_at "ev"
    all_goals assumption
  | true =>
    walk_at "ev"
    unfold wb__law_closed_4
    walk_at "ev"
    have hxs : ∀ x ∈ xs, 0 ≤ x ∧ x < N := fun x hx => (S.rc x hx).inn hN
    refine Os_forX (xs := xs.map .int) (fun t e h3 => ∃ z5, e = [some (.int 0), some (.loc c), some (.loc f), some (.bl true), some (.loc h.length), z5, none] ∧ Pre h h3 ∧ h3[h.length]? = some (lints ((xs.take t).flatMap fun x => (g x).filter fun y => decide (y ∉ xs)))) ?_ ?_ ?_ F (by simp; omega) ⟨_, rfl, .app _, get_new _ _⟩
    · rintro t e h3 ⟨z5, rfl, hp3, hg3⟩
      exact nxtL_at (hp3.get hg) t
    · rintro t e h3 v hv ⟨z5, rfl, hp3, hg3⟩
      rw [List.getElem?_map] at hv
      obtain ⟨y, hy, rfl⟩ := Option.map_eq_some_iff.mp hv
      have hb := hxs y (List.mem_of_getElem? hy)
      obtain ⟨i, rfl⟩ := Int.eq_ofNat_of_zero_le hb.1
      have T3 := T.mono (hp.trans hp3)
      have hi : i < ls.length := by rw [T.len]; omega
      have hgi := T3.it i ls[i] (by simp [hi])
      have hci : (ls.map MV.loc)[i]? = some (.loc ls[i]) := by simp [hi]
      have hc := T3.at_
      have hlen := hD i (by omega) (by omega)
      have hDF : D < 64 := by
        have : N * D < 64 := by omega
        have : 1 * D ≤ N * D := Nat.mul_le_mul_right D hN0
        omega
      walk_at "ev"
      unfold fb__law_closed_3
      walk_at "ev"
      obtain ⟨m3, e3, p3⟩ := lc_filt (nxt := nxtL ls[i]) (g := nameG 6) (tt := cc__law_closed_1) (te := ce__law_closed_2) (rt := ⟨rp F k, F⟩) (env := [some (.int 0), some (.loc c), some (.loc f), some (.bl true), some (.loc h.length), some (.int i), none]) (mh := h3) (xs := (g i).map .int) (F := F) (notIn xs) (fun v => v)
        (by simp; omega) (by simp; omega) (fun h hp i => nxtL_at (hp.get hgi) i) (fun x hx h hp => by
          refine ⟨_, rfl, ?_⟩
          obtain ⟨y, hy, rfl⟩ := List.mem_map.mp hx
          unfold cc__law_closed_1
          walk_at "ev"
          refine Op_notinL (hp.get (hp3.get hg)) ?_
          walk_at "ev"
          refine ⟨by simp [notIn], .refl, fun _ => ?_⟩
          unfold ce__law_closed_2
          walk_at "ev"
          all_goals exact ⟨rfl, .refl⟩)
      refine ⟨_, _, e3, ?_⟩
      rw [notIn_map]
      have hfl : ((xs.take t).flatMap fun x => (g x).filter fun y => decide (y ∉ xs)).length ≤ (xs.take t).length * D := flat_len fun x hx => by
        have hb := hxs x (List.mem_of_mem_take hx)
        exact Nat.le_trans (List.length_filter_le _ _) (hD x hb.1 hb.2)
      have htl : (xs.take t).length * D ≤ N * D := Nat.mul_le_mul_right D (by rw [List.length_take]; omega)
      have hfl2 := List.length_filter_le (fun y => decide (y ∉ xs)) (g i)
      refine extend_ints (get_old (p3.get hg3)) (get_new _ _) (by omega) ?_
      walk_at "ev"
      refine ⟨((hp3.trans p3).snoc _).set (Nat.le_refl _), ?_⟩
      have ht : xs.take (t + 1) = xs.take t ++ [(i : Int)] := by
        rw [List.take_add_one, hy]; rfl
      rw [ht, List.flatMap_append, List.flatMap_singleton]
      exact get_set (get_old (p3.get hg3))
    · rintro e h3 ⟨z5, rfl, hp3, hg3⟩
      rw [List.length_map, List.take_length] at hg3
      have hg3 : h3[h.length]? = some (lints (late g xs)) := hg3
      have hll := late_len (g := g) (xs := xs) (D := D) fun x hx => hD x (hxs x hx).1 (hxs x hx).2
      have hld : xs.length * D ≤ N * D := Nat.mul_le_mul_right D hl
      walk_at "ev"
      refine Op_cat (hp3.get hg) hg3 (by rw [List.length_map, List.length_map]; omega) ?_
      walk_at "ev"
      rw [← List.map_append]
      refine Op_srtset (get_new _ _) (by rw [List.length_append]; omega) ?_
      walk_at "ev"
      refine Op_neEmpty (get_old (get_old (get_old hg3))) (get_new _ _) ?_
      walk_at "ev"
      refine ⟨if (!(late g xs).isEmpty) = true then N + 1 - (ssort (xs ++ late g xs)).length else 0, ?_, _, !(late g xs).isEmpty, ssort (xs ++ late g xs), _, _, rfl, ?_, ?_, ?_, S.next, ?_, rfl⟩
      · rw [hm]
        cases hlt : late g xs with
        | nil => simp; omega
        | cons y ys =>
          have := S.grow (by rw [hlt]; simp)
          rw [hlt] at this
          simp
          omega
      · exact (((hp.trans hp3).snoc _).snoc _).snoc _
      · have := hp.le
        have := hp3.le
        simp
        omega
      · exact get_old (get_new _ _)
      · intro hz
        have hlt : late g xs = [] := by
          cases h : late g xs with
          | nil => rfl
          | cons y ys => rw [h] at hz; cases hz
        rw [hlt, List.append_nil, ssort_self S.srt]
        exact S.done hlt
theorem o_law_ways {at_ : Nat} {row : Rw} (hi : rows[at_]? = some row) {nf : Nat} (hr : RwOk nf rows.length row) (q : ∀ n h, Pre mh h → mh.length ≤ n → h[n]? = some (lints (ways rows at_)) → Q (.loc n) h) : Ok (rp F (k + 1) i__law_ways [.tup (rows.map encR), .int at_] mh) Q := by
  refine r__law_ways rfl ?_
  unfold d__law_ways
  have e2 := row_get hi
  have ew : ways rows at_ = waysR at_ row := by unfold ways; rw [Int.toNat_natCast, hi]
  rw [ew] at q
  cases row with
  | go n =>
    walk_at "ev"
    refine Op_cat (xs := []) (ys := [.int n]) (get_old (get_new _ _)) (get_new _ _) (by simp) ?_
    walk_at "ev"
    refine Op_srtset (ns := [(n : Int)]) (get_new _ _) (by simp) ?_
    refine q _ _ ((((Pre.app _).snoc _).snoc _).snoc _) (by simp) (get_new _ _)
  | ret t =>
    walk_at "ev"
    refine Op_cat (xs := []) (ys := []) (get_old (get_new _ _)) (get_new _ _) (by simp) ?_
    walk_at "ev"
    refine Op_srtset (ns := []) (get_new _ _) (by simp) ?_
    refine q _ _ ((((Pre.app _).snoc _).snoc _).snoc _) (by simp) (get_new _ _)
  | call g =>
    walk_at "ev"
    refine Op_cat (xs := [.int ((at_ : Int) + 1)]) (ys := []) (get_old (get_new _ _)) (get_new _ _) (by simp) ?_
    walk_at "ev"
    refine Op_srtset (ns := [(at_ : Int) + 1]) (get_new _ _) (by simp) ?_
    refine q _ _ ((((Pre.app _).snoc _).snoc _).snoc _) (by simp) (get_new _ _)
  | test t n =>
    walk_at "ev"
    refine Op_cat (xs := [.int ((at_ : Int) + 1)]) (ys := [.int n]) (get_old (get_new _ _)) (get_new _ _) (by simp) ?_
    walk_at "ev"
    refine Op_srtset (ns := [(at_ : Int) + 1, (n : Int)]) (get_new _ _) (by simp) ?_
    refine q _ _ ((((Pre.app _).snoc _).snoc _).snoc _) (by simp) (get_new _ _)
  | oth t =>
    have hr : t ∈ oths := hr
    rcases List.mem_cons.mp hr with rfl | hr
    · walk_at "ev"
      refine Op_cat (xs := [.int ((at_ : Int) + 1)]) (ys := []) (get_old (get_new _ _)) (get_new _ _) (by simp) ?_
      walk_at "ev"
      refine Op_srtset (ns := [(at_ : Int) + 1]) (get_new _ _) (by simp) ?_
      refine q _ _ ((((Pre.app _).snoc _).snoc _).snoc _) (by simp) (get_new _ _)
    rcases List.mem_cons.mp hr with rfl | hr
    · walk_at "ev"
      refine Op_cat (xs := [.int ((at_ : Int) + 1)]) (ys := []) (get_old (get_new _ _)) (get_new _ _) (by simp) ?_
      walk_at "ev"
      refine Op_srtset (ns := [(at_ : Int) + 1]) (get_new _ _) (by simp) ?_
      refine q _ _ ((((Pre.app _).snoc _).snoc _).snoc _) (by simp) (get_new _ _)
    rcases List.mem_cons.mp hr with rfl | hr
    · walk_at "ev"
      refine Op_cat (xs := [.int ((at_ : Int) + 1)]) (ys := []) (get_old (get_new _ _)) (get_new _ _) (by simp) ?_
      walk_at "ev"
      refine Op_srtset (ns := [(at_ : Int) + 1]) (get_new _ _) (by simp) ?_
      refine q _ _ ((((Pre.app _).snoc _).snoc _).snoc _) (by simp) (get_new _ _)
    rcases List.mem_cons.mp hr with rfl | hr
    · walk_at "ev"
      refine Op_cat (xs := [.int ((at_ : Int) + 1)]) (ys := []) (get_old (get_new _ _)) (get_new _ _) (by simp) ?_
      walk_at "ev"
      refine Op_srtset (ns := [(at_ : Int) + 1]) (get_new _ _) (by simp) ?_
      refine q _ _ ((((Pre.app _).snoc _).snoc _).snoc _) (by simp) (get_new _ _)
    cases hr
/-! ### frames -/
theorem o_law_frames {c N : Nat} {g : Int → List Int} {ls : List Nat} (T : Tbl mh c g N ls) (hN : Inn g N) (h6 : N ≤ 6) (hD : ∀ a : Int, 0 ≤ a → a < N → (g a).length ≤ 6) (hF : 70 ≤ F)
    (q : ∀ o h, Pre mh h → FrOk g N o → Q (frM o) h) : Ok (rp F (k + 1) i__law_frames [.loc c] mh) Q := by
  refine r__law_frames rfl ?_
  unfold d__law_frames
  have hN0 := hN.1
  walk_at "ev"
  refine Os_whileL (fun m e h => ∃ i a z3 z4, e = [some (.loc c), some (.loc a), some (.int (i : Nat)), z3, z4] ∧ Pre mh h ∧ mh.length ≤ a ∧ h[a]? = some (lints (wave g i)) ∧ i ≤ N + 1 ∧ (∀ j, j < i → wave g j ≠ []) ∧ m + i = N + 1) ?_ F (N + 1) _ _ (by omega) ⟨0, _, _, _, rfl, .app _, Nat.le_refl _, get_new _ _, by omega, fun j hj => by omega, rfl⟩
  rintro m e h ⟨i, a, z3, z4, rfl, hp, ha, hg, hi, hj, hm⟩
  unfold wc__law_frames_0
  walk_at "ev"
  refine Op_neEmpty (get_old hg) (get_new _ _) ?_
  walk_at "ev"
  have hlw := wave_len hN i
  have hin := wave_inn hN i
  have hg := get_old (x := .lst []) hg
  have hp := hp.snoc (.lst [])
  generalize h ++ [MO.lst []] = h1 at *
  have T1 := T.mono hp
  by_cases hw : wave g i = []
  · rw [hw] at hg ⊢
    walk_at "ev"
    refine Op_eqEmpty (ns := []) (get_old hg) (get_new _ _) ?_
    walk_at "ev"
    have hiN : i ≤ N := by
      apply Classical.byContradiction
      intro hh
      have : i = N + 1 := by omega
      subst this
      exact wave_more hN (hj N (by omega)) hw
    exact q (some i) _ (hp.snoc _) (.inl ⟨i, rfl, hiN, hw, hj⟩)
  · have hwe : (wave g i).isEmpty = false := by cases h : wave g i with
      | nil => exact absurd h hw
      | cons _ _ => rfl
    rw [hwe]
    walk_at "ev"
    refine Op_len T1.at_ ?_
    walk_at "ev"
    rw [T.len]
    by_cases hlt : i ≤ N
    · walk_at "ev"
      unfold wb__law_frames_2
      walk_at "ev"
      refine Os_forX (xs := (wave g i).map .int) (fun t e h => ∃ z, e = [some (.loc c), some (.loc a), some (.int (i : Nat)), some (.loc h1.length), z] ∧ Pre h1 h ∧ h[h1.length]? = some (lints (((wave g i).take t).flatMap g))) ?_ ?_ ?_ F (by simp; omega) ⟨_, rfl, .app _, get_new _ _⟩
      · rintro t e h ⟨z, rfl, hp2, hg2⟩
        exact nxtL_at (hp2.get hg) t
      · rintro t e h v hv ⟨z, rfl, hp2, hg2⟩
        rw [List.getElem?_map] at hv
        obtain ⟨y, hy, rfl⟩ := Option.map_eq_some_iff.mp hv
        have hb := hin y (List.mem_of_getElem? hy)
        obtain ⟨b, rfl⟩ := Int.eq_ofNat_of_zero_le hb.1
        have T3 := T1.mono hp2
        have hbl : b < ls.length := by rw [T.len]; omega
        have hgb := T3.it b ls[b] (by simp [hbl])
        have hcb : (ls.map MV.loc)[b]? = some (.loc ls[b]) := by simp [hbl]
        have hc := T3.at_
        walk_at "ev"
        unfold fb__law_frames_1
        walk_at "ev"
        have hfl : (((wave g i).take t).flatMap g).length ≤ ((wave g i).take t).length * 6 := flat_len fun x hx => by
          have hb := hin x (List.mem_of_mem_take hx)
          exact hD x hb.1 hb.2
        have htl : ((wave g i).take t).length ≤ 6 := by rw [List.length_take]; omega
        have hgl := hD b (by omega) (by omega)
        refine extend_ints hg2 hgb (by omega) ?_
        walk_at "ev"
        have ht : (wave g i).take (t + 1) = (wave g i).take t ++ [(b : Int)] := by
          rw [List.take_add_one, hy]; rfl
        refine ⟨hp2.set (Nat.le_refl _), ?_⟩
        rw [ht, List.flatMap_append, List.flatMap_singleton]
        exact get_set hg2
      · rintro e h ⟨z, rfl, hp2, hg2⟩
        rw [List.length_map, List.take_length] at hg2
        walk_at "ev"
        have hfl : ((wave g i).flatMap g).length ≤ (wave g i).length * 6 := flat_len fun x hx => by
          have hb := hin x hx
          exact hD x hb.1 hb.2
        refine Op_srtset hg2 (by omega) ?_
        walk_at "ev"
        refine ⟨m - 1, by omega, i + 1, _, _, _, rfl, (hp.trans hp2).snoc _, by have := hp.le; have := hp2.le; omega, get_new _ _, by omega, fun j h => ?_, by omega⟩
        by_cases hji : j = i
        · subst hji; exact hw
        · exact hj j (by omega)
    · walk_at "ev"
      refine Op_eqEmpty (get_old hg) (get_new _ _) ?_
      rw [hwe]
      walk_at "ev"
      exact q none _ (hp.snoc _) (.inr ⟨rfl, fun j h => hj j (by omega)⟩)
end K23
end L2
end
section
/-! K23L: what the law draws. -/
namespace L2
namespace K23
open PySem PySem.Spec PyProof.Rows L2.Vf
-- simp: encR_test
-- simp: encR_call
-- simp: encR_go
-- simp: encR_ret
-- simp: encR_oth
-- simp: encF
set_option hygiene false
local macro_rules | `(tactic| walk_at "hget") => `(tactic| first | assumption | exact get_new _ _ | (refine get_old ?_; first | assumption | exact get_new _ _ | (refine get_old ?_; first | assumption | exact get_new _ _ | (refine get_old ?_; first | assumption | exact get_new _ _))))
local macro_rules | `(tactic| walk_at "pre") => `(tactic| first | assumption | exact Pre.refl | exact Pre.app _ | (refine Pre.snoc ?_ _; first | assumption | exact Pre.refl | exact Pre.app _ | (refine Pre.snoc ?_ _; first | assumption | exact Pre.refl | exact Pre.app _)))
local macro_rules | `(tactic| walk_at "ev1") => `(tactic| first
  | (with_reducible refine Os_seqC ?_; intro N' hN') | simp only [↓eqB_, ↓eqI_, ↓eqT_, ↓eqV_, ↓eqM_, ↓eqH_, ↓eqNt, ↓eqNf, ↓eqNs, ↓eqCt, ↓eqCf, ↓eqCn, ↓eqOp, ↓okE_ok, ↓okE_var, ↓okE_con, ↓okE_op1, ↓okE_op2, ↓okE_opN, ↓okE_nil, ↓okE_cons, ↓okE_if, ↓okE_andV, ↓okE_orV, ↓okE_notV, ↓okE_chain, ↓okE_bool, ↓okE_tru, ↓okE_and, ↓okE_or, ↓okE_not, ↓okE_ifB, ↓okE_yes, ↓okE_call, ↓okE_callK, ↓okE_meth, ↓okE_meth0, ↓okE_noPart, ↓okE_part, ↓okE_slice, ↓okE_any, ↓okE_rng1, ↓okE_lc, ↓okE_dnew, ↓okE_pnil, ↓okE_pcons, ↓osE_expr, ↓osE_set, ↓osE_ret, ↓osE_retN, ↓osE_pass, ↓osE_if, ↓osE_asg, ↓osE_sub, ↓okE_disp, ↓osE_name, ↓osE_nilG, ↓osE_consGn, ↓osE_tupT, ↓osE_tupP, ↓osE_par2, ↓osE_par3, ↓osE_for, ↓osE_while, p_isi_non1, p_isi_non2, p_isi_non3, p_isi_non4, p_isi_non5, p_isi_non6, p_isi_bl1, p_isi_bl2, p_isi_bl3, p_isi_bl4, p_isi_bl5, p_isi_bl6, p_isi_int1, p_isi_int2, p_isi_int3, p_isi_int4, p_isi_int5, p_isi_int6, p_isi_str1, p_isi_str2, p_isi_str3, p_isi_str4, p_isi_str5, p_isi_str6, p_isi_tup1, p_isi_tup2, p_isi_tup3, p_isi_tup4, p_isi_tup5, p_isi_tup6, p_isi_fl1, p_isi_fl2, p_isi_fl3, p_isi_fl4, p_isi_fl5, p_isi_fl6, p_ix0, p_ix1, p_ix2, p_ix3, p_ix4, p_ix5, p_ix6, p_ix7, p_lenT, p_lt, p_le, p_gt, p_ge, p_eqI, p_neI, p_eqS, p_neS, p_add, p_sub, p_is_non, p_isnot_non, p_is_bl, p_isnot_bl, p_is_int, p_isnot_int, p_is_str, p_isnot_str, p_is_tup, p_isnot_tup, p_is_fl, p_isnot_fl, p_is_loc, p_isnot_loc, p_trB, p_trN, p_trT0, p_trT, p_tup0, p_lst0, p_tup1, p_lst1, p_tup2, p_lst2, p_tup3, p_lst3, p_tup4, p_lst4, p_tup5, p_lst5, p_tup6, p_lst6, p_tup7, p_lst7, p_tup8, p_lst8, p_int, p_abs, v0, wipeE, List.length_cons, List.length_nil, List.length_map, List.map_cons, List.map_nil, List.cons_append, List.nil_append, List.replicate, List.getElem?_cons_succ, List.getElem?_cons_zero, List.set_cons_zero, List.set_cons_succ, Nat.reduceAdd, Nat.reduceSub, Int.cast_ofNat_Int, Int.reduceEq, Int.reduceLE, Int.reduceLT, Int.reduceAdd, Int.reduceSub, Int.reduceNeg, Nat.reduceEqDiff, decide_true, decide_false, Bool.not_true, Bool.not_false, true_and, and_true, and_self, g_BOOK, g_FUNCTION, g_WORD, g_LINK, g_KINDS, g_VAL, g_NEXT, g_LEAST_WIDTH, g_MOST_WIDTH, g_MOST_DEPTH, g_MOST_ROOM, g_MOST_FUNCTIONS, g_MOST_PARAMS, g_MOST_NAMES, g_MOST_BOOK_ROWS, g_MOST_TERM_DEEP, g_MOST_TITLE, kw_row_ways_0, kw_called_by_0, kw_reached_rows_0, kw_frames_wanted_0, encR_test, encR_call, encR_go, encR_ret, encR_oth, encF]
  | ((with_reducible show Cd _ _ _); first | refine Cd_pos rfl ?_ | refine Cd_neg rfl ?_ | refine Cd_pos (decide_eq_true (by omega)) ?_ | refine Cd_neg (decide_eq_false (by omega)) ?_ | refine Cd_pos (by assumption) ?_ | refine Cd_neg (by assumption) ?_)
  | ((with_reducible show Op _ _); first | with_reducible refine Op_ixT (by assumption) ?_ | ((with_reducible show Op (ixM (.loc _) _ _) _); refine Op_ix (by walk_at "hget") (by assumption) ?_) | ((with_reducible show Op (getDM (.loc _) _ _) _); first | refine Op_getS (by walk_at "hget") rfl rfl ?_ | refine Op_getN (by walk_at "hget") rfl rfl ?_) | ((with_reducible show Op (inM (.str _) _ _) _); refine Op_inTup (xs := _) rfl rfl rfl rfl ?_) | ((with_reducible show Op (notinM (.str _) _ _) _); refine Op_notinTup (xs := _) rfl rfl rfl rfl ?_) | refine Op_mk rfl ?_)
  | ((with_reducible refine hN' _ _ ?_); clear hN') | (clear hN'; (with_reducible refine hN' _ _ ?_); clear hN') | (clear hN'; clear hN'; (with_reducible refine hN' _ _ ?_); clear hN') | ((with_reducible show Q _ _); first | exact q | refine q _ ?_ | refine q _ _ ?_ ?_ ?_ | refine q _ _ ?_ ?_)
  | ((with_reducible show Pre _ _); walk_at "pre") | ((with_reducible show ON _ _ _); refine ON_l (by walk_at "hget") ?_) | ((with_reducible show OM _ _); first | refine OM_l (by walk_at "hget") ?_ | refine OM_d (by walk_at "hget") ?_) | ((with_reducible show (_ = _ ∧ _ = _ ∧ _ = _) ∧ _); refine ⟨⟨rfl, rfl, rfl⟩, ?_⟩)
  | ((with_reducible show ∃ _, _ = _ ∧ _); refine ⟨_, rfl, ?_⟩))
local macro_rules | `(tactic| walk_at "ev") => `(tactic| repeat walk_at "ev1")
local macro_rules | `(tactic| walk_at "ev1") => `(tactic| ((with_reducible show Ok (rp _ _ _ _ _) _); first | with_reducible refine o_is_integer ?_ | with_reducible refine o_is_within (by omega) (by omega) ?_ | ((with_reducible show Ok (rp _ _ i_is_tuple _ _) _); refine o_is_tuple rfl ?_) | ((with_reducible show Ok (rp _ _ i_is_kind _ _) _); refine o_is_kind (by first | exact .inl rfl | exact .inr rfl) ?_) | ((with_reducible show Ok (rp _ _ i_is_worded_row _ _) _); refine o_worded rfl ?_) | ((with_reducible show Ok (rp _ _ i_is_named _ _) _); refine r_is_named rfl ?_; unfold d_is_named) | ((with_reducible show Ok (rp _ _ i_rows_of_function _ _) _); refine r_rows_of_function rfl ?_; unfold d_rows_of_function)))
variable {F k : Nat} {mh : MH} {Q : MV → MH → Prop} {d r f n : Nat} {fns : List (List Rw)} {rows : List Rw}
theorem Fr.one {p : Nat} {m h : MH} (a : Fr p m h) : Pre1 p m h := ⟨a.le, a.keep⟩
theorem o_draw {p : Nat} {n : Int} (hP : Pot mh p) (h1 : 0 < n) (h2 : n < 1073741824) (q : ∀ (v : Nat) h, (v : Int) < n → Pot h p → Pre1 p mh h → Q (.int v) h) : Ok (rp F (k + 1) i__law_draw [.loc p, .int n] mh) Q := by
  obtain ⟨m, v, e, v0, v1, P, hl, hk⟩ := draw_spec (F := F) (k := k) hP h1 h2
  obtain ⟨j, rfl⟩ := Int.eq_ofNat_of_zero_le v0
  exact .of e (q j m v1 P ⟨by omega, fun r _ n => hk r n⟩)
theorem o_pick {p l : Nat} {xs : List MV} (hP : Pot mh p) (hl : mh[l]? = some (.lst xs)) (hne : l ≠ p) (h1 : 0 < xs.length) (h2 : xs.length < 1073741824) (q : ∀ v h, v ∈ xs → Pot h p → Pre1 p mh h → Q v h) : Ok (rp F (k + 2) i__law_pick [.loc p, .loc l] mh) Q := by
  obtain ⟨m, v, e, v1, P, f⟩ := pick_spec (F := F) (k := k) hP hl hne h1 h2
  exact .of e (q v m v1 P f.one)
theorem o_row {p nf many : Nat} (hP : Pot mh p) (hn : 0 < nf) (hn2 : nf ≤ 6) (hm : 0 < many) (hm2 : many ≤ 12) (q : ∀ row h, RwOk nf many row → Pot h p → Pre1 p mh h → Q (encR row) h) : Ok (rp F (k + 3) i__law_row [.loc p, .int nf, .int many] mh) Q := by
  refine r__law_row rfl ?_
  unfold d__law_row
  walk_at "ev"
  refine o_draw hP (by decide) (by decide) ?_
  intro w h1 hw P1 p1
  walk_at "ev"
  by_cases c1 : w < 2
  · walk_at "ev"
    refine o_pick P1.app (get_new _ _) (by have := P1.lt; omega) (by decide) (by decide) ?_
    intro t h2 ht P2 p2
    walk_at "ev"
    refine o_draw P2 (by omega) (by omega) ?_
    intro v h3 hv P3 p3
    walk_at "ev"
    exact q (.test t v) h3 ⟨ht, by omega⟩ P3 (((p1.snoc _).trans p2).trans p3)
  · walk_at "ev"
    by_cases c2 : w < 4
    · walk_at "ev"
      refine o_draw P1 (by omega) (by omega) ?_
      intro v h3 hv P3 p3
      walk_at "ev"
      exact q (.call v) h3 (show v < nf by omega) P3 (p1.trans p3)
    · walk_at "ev"
      by_cases c3 : w = 4
      · subst c3
        walk_at "ev"
        refine o_draw P1 (by omega) (by omega) ?_
        intro v h3 hv P3 p3
        walk_at "ev"
        exact q (.go v) h3 (show v < many by omega) P3 (p1.trans p3)
      · walk_at "ev"
        by_cases c4 : w = 5
        · subst c4
          walk_at "ev"
          exact q (.ret (tName cX)) h1 (show tName cX ∈ rets from List.mem_cons_self) P1 p1
        · walk_at "ev"
          refine o_pick P1.app (get_new _ _) (by have := P1.lt; omega) (by decide) (by decide) ?_
          intro t h2 ht P2 p2
          exact q (.oth t) h2 ht P2 ((p1.snoc _).trans p2)
theorem encFs_snoc (rows : List Rw) : ∀ (fns : List (List Rw)) (a : Nat), encFs a (fns ++ [rows]) = encFs a fns ++ [encF (a + fns.length) rows]
  | [], a => rfl
  | f :: r, a => by
    rw [List.cons_append, encFs, encFs, encFs_snoc rows r (a + 1), List.length_cons, List.cons_append, Nat.add_assoc, Nat.add_comm 1]
theorem str_small : ∀ a, a < 6 → strN [.int (a : Nat)] mh = some (.str [48 + a], mh) := by
  intro a h
  have : a = 0 ∨ a = 1 ∨ a = 2 ∨ a = 3 ∨ a = 4 ∨ a = 5 := by omega
  rcases this with rfl | rfl | rfl | rfl | rfl | rfl <;> kernel_rfl
theorem o_book {p : Nat} (hP : Pot mh p) (hF : 70 ≤ F) (q : ∀ d r fns h, BkOk d r fns → Pot h p → Pre1 p mh h → Q (encB d r fns) h) : Ok (rp F (k + 4) i__law_book [.loc p] mh) Q := by
  refine r__law_book rfl ?_
  unfold d__law_book
  have hlt := hP.lt
  walk_at "ev"
  refine o_pick (k := k + 1) hP.app.app (get_new _ _) (by simp; omega) (by decide) (by decide) ?_
  intro v h1 hv P1 p1
  obtain ⟨nf, rfl, n1, n6⟩ : ∃ nf : Nat, v = .int nf ∧ 1 ≤ nf ∧ nf ≤ 6 := by
    simp only [List.mem_cons, List.not_mem_nil, or_false] at hv
    rcases hv with rfl | rfl | rfl | rfl | rfl | rfl
    · exact ⟨1, rfl, by decide, by decide⟩
    · exact ⟨2, rfl, by decide, by decide⟩
    · exact ⟨3, rfl, by decide, by decide⟩
    · exact ⟨3, rfl, by decide, by decide⟩
    · exact ⟨4, rfl, by decide, by decide⟩
    · exact ⟨6, rfl, by decide, by decide⟩
  have g1 := p1.get (get_old (x := .lst [.int 1, .int 2, .int 3, .int 3, .int 4, .int 6]) (get_new mh (.lst []))) (by omega)
  have q1 : Pre1 p mh h1 := ((Pre.app [.lst []]).snoc (.lst [.int 1, .int 2, .int 3, .int 3, .int 4, .int 6])).one.trans p1
  walk_at "ev"
  refine ⟨inR_nat (by omega), ?_⟩
  rw [Int.toNat_natCast]
  refine Os_forL (fun i e h => ∃ z1 z4 z5 fns, e = [some (.loc p), z1, some (.loc mh.length), some (.int nf), z4, z5, none] ∧ Pot h p ∧ Pre1 p mh h ∧ h[mh.length]? = some (.lst (encFs 0 fns)) ∧ fns.length = i ∧ ∀ f ∈ fns, FnOk nf f) nf ?_ ?_ nf F 0 _ _ (by omega) (by omega) ⟨_, _, _, [], rfl, P1, q1, g1, rfl, fun f hf => by cases hf⟩
  · rintro i e h hi ⟨z1, z4, z5, fns, rfl, P, q1, g1, hl, hf⟩
    refine ⟨.int (i : Nat), by rw [nxtR_at, if_pos hi, Int.zero_add], ?_⟩
    walk_at "ev"
    unfold fb__law_book_1
    walk_at "ev"
    refine o_draw (k := k + 2) P (by decide) (by decide) ?_
    intro s h2 hs P2 p2
    walk_at "ev"
    rw [show (1 : Int) + s = ((s + 1 : Nat) : Int) from by omega]
    have hlen : mh.length < h.length := lt_of_get g1
    refine ⟨by rw [show ((s + 1 : Nat) : Int) - 1 = ((s : Nat) : Int) from by omega]; exact inR_nat (by omega), ?_⟩
    rw [show ((s + 1 : Nat) : Int) - 1 = ((s : Nat) : Int) from by omega, Int.toNat_natCast]
    obtain ⟨xs, m, e3, P3, p3, rs, rfl, rl, rok⟩ := lc_run (nxt := nxtR 0 s) (g := nameG 6) (tt := yesD) (te := ce__law_book_0) (rt := ⟨rp F (k + 3), F⟩) (env := [some (.loc p), some (.int i), some (.loc mh.length), some (.int nf), some (.int ((s + 1 : Nat) : Int)), z5, none])
      (fun t acc h => Pot h p ∧ Pre1 p h2 h ∧ ∃ rs : List Rw, acc = rs.map encR ∧ rs.length = t ∧ ∀ r ∈ rs, RwOk nf (s + 1) r) s (by omega) (by
        rintro t acc h ht ⟨P3, p3, rs, rfl, rl, rok⟩
        refine ⟨.int (t : Nat), by rw [nxtR_at, if_pos ht, Int.zero_add], ?_⟩
        walk_at "ev"
        unfold ce__law_book_0
        walk_at "ev"
        refine o_row P3 (by omega) n6 (by omega) (by omega) ?_
        intro row h4 hr P4 p4
        refine ⟨P4, p3.trans p4, rs ++ [row], by simp, by simp; omega, fun r hr2 => ?_⟩
        rcases List.mem_append.mp hr2 with z | z
        · exact rok r z
        · cases List.mem_singleton.mp z; exact hr) (by
        intro acc h _
        rw [nxtR_at, if_neg (by omega)]) s F 0 [] h2 (by omega) (by omega) ⟨P2, .refl, [], rfl, rfl, fun r hr => by cases hr⟩
    refine ⟨_, _, e3, ?_⟩
    walk_at "ev"
    have hm := P3.lt
    refine o_draw (k := k + 2) P3.app (by omega) (by omega) ?_
    intro t h5 ht P5 p5
    walk_at "ev"
    refine o_pick (k := k + 1) P5.app (get_new _ _) (by have := P5.lt; omega) (by simp) (by simp) ?_
    intro v h6 hv P6 p6
    have p56 := (p5.snoc (.lst [.tup [.str w_return, tWord0], .tup [.str w_go, .int t]])).trans p6
    have hml : m.length ≠ p := by omega
    have ge := p56.get (get_new m (.lst (rs.map encR))) hml
    walk_at "ev"
    refine Op_append ge (by simp; omega) ?_
    walk_at "ev"
    obtain ⟨l, rfl, hle, hlo⟩ : ∃ l, v = encR l ∧ isEnd l = true ∧ RwOk nf (s + 1) l := by
      simp only [List.mem_cons, List.not_mem_nil, or_false] at hv
      rcases hv with rfl | rfl
      · exact ⟨.ret tWord0, rfl, rfl, show tWord0 ∈ rets by simp⟩
      · exact ⟨.go t, rfl, rfl, show t < s + 1 by omega⟩
    have q6 : Pre1 p h m := p2.trans p3
    have q7 : Pre1 p mh (h6.set m.length (.lst (rs.map encR ++ [encR l]))) := (((q1.trans q6).snoc _).trans p56).set (by have := q1.le; have := q6.le; omega) _
    have g7 : (h6.set m.length (.lst (rs.map encR ++ [encR l])))[mh.length]? = some (.lst (encFs 0 fns)) := by
      have hne : m.length ≠ mh.length := by have := q6.le; omega
      rw [List.getElem?_set_ne hne]
      exact p56.get (get_old (q6.get g1 (by omega))) (by omega)
    have P7 : Pot (h6.set m.length (.lst (rs.map encR ++ [encR l]))) p := by
      obtain ⟨a, b, e, r⟩ := P6.ex
      exact ⟨a, b, by rw [List.getElem?_set_ne hml]; exact e, r⟩
    have g8 := get_set (x := .lst (rs.map encR ++ [encR l])) ge
    generalize h6.set m.length (.lst (rs.map encR ++ [encR l])) = h7 at *
    walk_at "ev"
    rw [str_small i (by omega)]
    walk_at "ev"
    refine Op_tuple g8 ?_
    walk_at "ev"
    have hfl := encFs_len fns 0
    refine Op_append g7 (by omega) ?_
    walk_at "ev"
    refine ⟨_, _, _, fns ++ [rs ++ [l]], rfl, ?_, q7.set (Nat.le_refl _) _, ?_, by simp; omega, ?_⟩
    · obtain ⟨a, b, e, r⟩ := P7.ex
      exact ⟨a, b, by rw [List.getElem?_set_ne (by omega)]; exact e, r⟩
    · rw [encFs_snoc, Nat.zero_add, hl]
      have : encF i (rs ++ [l]) = .tup [.str w_function, .str ([102] ++ [48 + i]), .int 0, namesM, .str w_word, .tup (rs.map encR ++ [encR l])] := by
        unfold encF
        rw [List.map_append]
        rfl
      rw [this]
      exact get_set g7
    · intro f hf2
      rcases List.mem_append.mp hf2 with z | z
      · exact hf f z
      · cases List.mem_singleton.mp z
        refine ⟨by simp; omega, fun r hr => ?_, rs, l, rfl, hle⟩
        rw [List.length_append, List.length_singleton, rl]
        rcases List.mem_append.mp hr with z | z
        · exact rok r z
        · cases List.mem_singleton.mp z; exact hlo
  · rintro e h ⟨z1, z4, z5, fns, rfl, P, q1, g1, hl, hf⟩
    refine ⟨by rw [nxtR_at, if_neg (by omega)], ?_⟩
    walk_at "ev"
    refine o_draw (k := k + 2) P (by decide) (by decide) ?_
    intro d h2 hd P2 p2
    walk_at "ev"
    refine o_draw (k := k + 2) P2 (by decide) (by decide) ?_
    intro r h3 hr P3 p3
    walk_at "ev"
    refine Op_tuple (p3.get (p2.get g1 (by omega)) (by omega)) ?_
    walk_at "ev"
    rw [show (1 : Int) + d = ((d + 1 : Nat) : Int) from by omega]
    exact q (d + 1) r fns h3 ⟨by omega, by omega, by omega, by omega, by omega, by rw [hl]; exact hf⟩ P3 ((q1.trans p2).trans p3)
end K23
end L2
end
section
/-! K23M: books and answers as texts. -/
namespace L2
namespace K23
open PySem PySem.Spec PyProof.Rows L2.Vf
-- simp: encR_test
-- simp: encR_call
-- simp: encR_go
-- simp: encR_ret
-- simp: encR_oth
-- simp: encF
-- simp: beqL_self
set_option hygiene false
local macro_rules | `(tactic| walk_at "hget") => `(tactic| first | assumption | exact get_new _ _ | (refine get_old ?_; first | assumption | exact get_new _ _ | (refine get_old ?_; first | assumption | exact get_new _ _ | (refine get_old ?_; first | assumption | exact get_new _ _))))
local macro_rules | `(tactic| walk_at "pre") => `(tactic| first | assumption | exact Pre.refl | exact Pre.app _ | (refine Pre.snoc ?_ _; first | assumption | exact Pre.refl | exact Pre.app _ | (refine Pre.snoc ?_ _; first | assumption | exact Pre.refl | exact Pre.app _)))
local macro_rules | `(tactic| walk_at "ev1") => `(tactic| first
  | (with_reducible refine Os_seqC ?_; intro N' hN') | simp only [↓eqB_, ↓eqI_, ↓eqT_, ↓eqV_, ↓eqM_, ↓eqH_, ↓eqNt, ↓eqNf, ↓eqNs, ↓eqCt, ↓eqCf, ↓eqCn, ↓eqOp, ↓okE_ok, ↓okE_var, ↓okE_con, ↓okE_op1, ↓okE_op2, ↓okE_opN, ↓okE_nil, ↓okE_cons, ↓okE_if, ↓okE_andV, ↓okE_orV, ↓okE_notV, ↓okE_chain, ↓okE_bool, ↓okE_tru, ↓okE_and, ↓okE_or, ↓okE_not, ↓okE_ifB, ↓okE_yes, ↓okE_call, ↓okE_callK, ↓okE_meth, ↓okE_meth0, ↓okE_noPart, ↓okE_part, ↓okE_slice, ↓okE_any, ↓okE_rng1, ↓okE_lc, ↓okE_dnew, ↓okE_pnil, ↓okE_pcons, ↓osE_expr, ↓osE_set, ↓osE_ret, ↓osE_retN, ↓osE_pass, ↓osE_if, ↓osE_asg, ↓osE_sub, ↓okE_disp, ↓osE_name, ↓osE_nilG, ↓osE_consGn, ↓osE_tupT, ↓osE_tupP, ↓osE_par2, ↓osE_par3, ↓osE_for, ↓osE_while, p_isi_non1, p_isi_non2, p_isi_non3, p_isi_non4, p_isi_non5, p_isi_non6, p_isi_bl1, p_isi_bl2, p_isi_bl3, p_isi_bl4, p_isi_bl5, p_isi_bl6, p_isi_int1, p_isi_int2, p_isi_int3, p_isi_int4, p_isi_int5, p_isi_int6, p_isi_str1, p_isi_str2, p_isi_str3, p_isi_str4, p_isi_str5, p_isi_str6, p_isi_tup1, p_isi_tup2, p_isi_tup3, p_isi_tup4, p_isi_tup5, p_isi_tup6, p_isi_fl1, p_isi_fl2, p_isi_fl3, p_isi_fl4, p_isi_fl5, p_isi_fl6, p_ix0, p_ix1, p_ix2, p_ix3, p_ix4, p_ix5, p_ix6, p_ix7, p_lenT, p_lt, p_le, p_gt, p_ge, p_eqI, p_neI, p_eqS, p_neS, p_add, p_sub, p_is_non, p_isnot_non, p_is_bl, p_isnot_bl, p_is_int, p_isnot_int, p_is_str, p_isnot_str, p_is_tup, p_isnot_tup, p_is_fl, p_isnot_fl, p_is_loc, p_isnot_loc, p_trB, p_trN, p_trT0, p_trT, p_tup0, p_lst0, p_tup1, p_lst1, p_tup2, p_lst2, p_tup3, p_lst3, p_tup4, p_lst4, p_tup5, p_lst5, p_tup6, p_lst6, p_tup7, p_lst7, p_tup8, p_lst8, p_int, p_abs, v0, wipeE, List.length_cons, List.length_nil, List.length_map, List.map_cons, List.map_nil, List.cons_append, List.nil_append, List.replicate, List.getElem?_cons_succ, List.getElem?_cons_zero, List.set_cons_zero, List.set_cons_succ, Nat.reduceAdd, Nat.reduceSub, Int.cast_ofNat_Int, Int.reduceEq, Int.reduceLE, Int.reduceLT, Int.reduceAdd, Int.reduceSub, Int.reduceNeg, Nat.reduceEqDiff, decide_true, decide_false, Bool.not_true, Bool.not_false, true_and, and_true, and_self, g_BOOK, g_FUNCTION, g_WORD, g_LINK, g_KINDS, g_VAL, g_NEXT, g_LEAST_WIDTH, g_MOST_WIDTH, g_MOST_DEPTH, g_MOST_ROOM, g_MOST_FUNCTIONS, g_MOST_PARAMS, g_MOST_NAMES, g_MOST_BOOK_ROWS, g_MOST_TERM_DEEP, g_MOST_TITLE, kw_row_ways_0, kw_called_by_0, kw_reached_rows_0, kw_frames_wanted_0, encR_test, encR_call, encR_go, encR_ret, encR_oth, encF, beqL_self]
  | ((with_reducible show Cd _ _ _); first | refine Cd_pos rfl ?_ | refine Cd_neg rfl ?_ | refine Cd_pos (decide_eq_true (by omega)) ?_ | refine Cd_neg (decide_eq_false (by omega)) ?_ | refine Cd_pos (by assumption) ?_ | refine Cd_neg (by assumption) ?_)
  | ((with_reducible show Op _ _); first | with_reducible refine Op_ixT (by assumption) ?_ | ((with_reducible show Op (ixM (.loc _) _ _) _); refine Op_ix (by walk_at "hget") (by assumption) ?_) | ((with_reducible show Op (getDM (.loc _) _ _) _); first | refine Op_getS (by walk_at "hget") rfl rfl ?_ | refine Op_getN (by walk_at "hget") rfl rfl ?_) | ((with_reducible show Op (inM (.str _) _ _) _); refine Op_inTup (xs := _) rfl rfl rfl rfl ?_) | ((with_reducible show Op (notinM (.str _) _ _) _); refine Op_notinTup (xs := _) rfl rfl rfl rfl ?_) | refine Op_mk rfl ?_)
  | ((with_reducible refine hN' _ _ ?_); clear hN') | (clear hN'; (with_reducible refine hN' _ _ ?_); clear hN') | (clear hN'; clear hN'; (with_reducible refine hN' _ _ ?_); clear hN') | ((with_reducible show Q _ _); first | exact q | refine q _ ?_ | refine q _ _ ?_ ?_ ?_ | refine q _ _ ?_ ?_)
  | ((with_reducible show Pre _ _); walk_at "pre") | ((with_reducible show ON _ _ _); refine ON_l (by walk_at "hget") ?_) | ((with_reducible show OM _ _); first | refine OM_l (by walk_at "hget") ?_ | refine OM_d (by walk_at "hget") ?_) | ((with_reducible show (_ = _ ∧ _ = _ ∧ _ = _) ∧ _); refine ⟨⟨rfl, rfl, rfl⟩, ?_⟩)
  | ((with_reducible show ∃ _, _ = _ ∧ _); refine ⟨_, rfl, ?_⟩))
local macro_rules | `(tactic| walk_at "ev") => `(tactic| repeat walk_at "ev1")
local macro_rules | `(tactic| walk_at "ev1") => `(tactic| ((with_reducible show Ok (rp _ _ _ _ _) _); first | with_reducible refine o_is_integer ?_ | with_reducible refine o_is_within (by omega) (by omega) ?_ | ((with_reducible show Ok (rp _ _ i_is_tuple _ _) _); refine o_is_tuple rfl ?_) | ((with_reducible show Ok (rp _ _ i_is_kind _ _) _); refine o_is_kind (by first | exact .inl rfl | exact .inr rfl) ?_) | ((with_reducible show Ok (rp _ _ i_is_worded_row _ _) _); refine o_worded rfl ?_) | ((with_reducible show Ok (rp _ _ i_is_named _ _) _); refine r_is_named rfl ?_; unfold d_is_named) | ((with_reducible show Ok (rp _ _ i_rows_of_function _ _) _); refine r_rows_of_function rfl ?_; unfold d_rows_of_function)))
variable {F k : Nat} {mh : MH} {Q : MV → MH → Prop} {d r f n : Nat} {fns : List (List Rw)} {rows : List Rw}
/-- a datum that stands for itself, small -/
def DS_ (x : MV) (k dp w : Nat) : Prop := ∃ D, (∀ mh, Dat mh x D k) ∧ Small D dp w
theorem DS_.le {x : MV} {k dp w k2 dp2 w2 : Nat} (h : DS_ x k dp w) (h1 : k ≤ k2) (h2 : dp ≤ dp2) (h3 : w ≤ w2) : DS_ x k2 dp2 w2 := by
  obtain ⟨D, a, b⟩ := h
  exact ⟨D, fun mh => (a mh).le h1, b.le h2 h3⟩
theorem dats_ex {k dp w : Nat} : ∀ {xs : List MV}, (∀ x ∈ xs, DS_ x k dp w) → ∃ Ds, (∀ mh, Dats mh xs Ds k) ∧ Smalls Ds dp (xs.length * (w + 1))
  | [], _ => ⟨[], fun _ => .nil, by have := Smalls.nil; exact ⟨this.sh, this.nd, by have := this.dep; omega, this.sho, by have := this.wt; omega⟩⟩
  | x :: xs, h => by
    obtain ⟨D, a, b⟩ := h x List.mem_cons_self
    obtain ⟨Ds, c, d⟩ := dats_ex (xs := xs) fun y hy => h y (List.mem_cons_of_mem _ hy)
    have e := Smalls.cons b d
    refine ⟨D :: Ds, fun mh => .cons (a mh) (c mh), e.sh, e.nd, by have := e.dep; omega, e.sho, ?_⟩
    have := e.wt
    rw [List.length_cons, Nat.add_mul, Nat.one_mul]
    omega
theorem DS_.tup {xs : List MV} {k dp w : Nat} (h : ∀ x ∈ xs, DS_ x k dp w) : DS_ (.tup xs) (k + 1) (dp + 1) (xs.length * (w + 1)) := by
  obtain ⟨Ds, a, b⟩ := dats_ex h
  exact ⟨_, fun mh => .tup (a mh), .tup b⟩
theorem DS_.int {i : Int} (h : i.natAbs < 1000) : DS_ (.int i) 0 0 10 := ⟨_, fun mh => .int i, .int h⟩
theorem DS_.str {s : List Nat} (h : (s.all fun c => Nat.blt c 1114112) = true) : DS_ (.str s) 0 0 s.length := ⟨_, fun mh => .str s, .str fun c hc => by
  have := List.all_eq_true.mp h c hc
  rw [Nat.blt_eq] at this
  exact this⟩
/-- small data, told by a look -/
def lookD : Nat → MV → Bool
  | _, .int i => Nat.blt i.natAbs 1000
  | _, .str s => Nat.ble s.length 20 && s.all fun c => Nat.blt c 1114112
  | n + 1, .tup xs => Nat.ble xs.length 4 && xs.all (lookD n)
  | _, _ => false
def wD : Nat → Nat
  | 0 => 20
  | n + 1 => 4 * (wD n + 1)
theorem wD_20 : ∀ n, 20 ≤ wD n
  | 0 => Nat.le_refl _
  | n + 1 => by have := wD_20 n; show 20 ≤ 4 * (wD n + 1); omega
theorem lookD_ok : ∀ {n : Nat} {x : MV}, lookD n x = true → DS_ x n n (wD n)
  | n, .int i, h => by
    have h : Nat.blt i.natAbs 1000 = true := by cases n <;> exact h
    have := wD_20 n
    exact (DS_.int (by rw [Nat.blt_eq] at h; exact h)).le (by omega) (by omega) (by omega)
  | n, .str s, h => by
    have h : (Nat.ble s.length 20 && s.all fun c => Nat.blt c 1114112) = true := by cases n <;> exact h
    obtain ⟨h1, h2⟩ := Bool.and_eq_true_iff.mp h
    rw [Nat.ble_eq] at h1
    have := wD_20 n
    exact (DS_.str h2).le (by omega) (by omega) (by omega)
  | n + 1, .tup xs, h => by
    obtain ⟨h1, h2⟩ := Bool.and_eq_true_iff.mp (show (Nat.ble xs.length 4 && xs.all (lookD n)) = true from h)
    rw [Nat.ble_eq] at h1
    refine (DS_.tup fun x hx => lookD_ok (List.all_eq_true.mp h2 x hx)).le (Nat.le_refl _) (Nat.le_refl _) ?_
    show xs.length * (wD n + 1) ≤ 4 * (wD n + 1)
    exact Nat.mul_le_mul_right _ h1
  | 0, .tup xs, h => by cases h
  | n, .non, h => by cases n <;> cases h
  | n, .bl b, h => by cases n <;> cases h
  | n, .loc b, h => by cases n <;> cases h
  | n, .fl b, h => by cases n <;> cases h
  | n, .ty b, h => by cases n <;> cases h
  | n, .cls b, h => by cases n <;> cases h
  | n, .wd b ks vs, h => by cases n <;> cases h
  | n, .pr b, h => by cases n <;> cases h
theorem row_data {row : Rw} {nf len : Nat} (h : RwOk nf len row) (h1 : nf ≤ 6) (h2 : len ≤ 12) : DS_ (encR row) 3 3 1364 := by
  have tt : ∀ t ∈ tests, lookD 2 t = true := by decide
  have tr : ∀ t ∈ rets, lookD 2 t = true := by decide
  have to : ∀ t ∈ oths, lookD 2 t = true := by decide
  have up : ∀ {t : MV}, lookD 2 t = true → DS_ t 2 2 340 := fun h => (lookD_ok h).le (by decide) (by decide) (by decide)
  have st : ∀ {s : List Nat}, lookD 0 (.str s) = true → DS_ (.str s) 2 2 340 := fun h => (lookD_ok h).le (by decide) (by decide) (by decide)
  have it : ∀ {i : Nat}, i < 1000 → DS_ (.int i) 2 2 340 := fun h => (DS_.int (by omega)).le (by decide) (by decide) (by decide)
  have fin : ∀ {xs : List MV}, xs.length ≤ 4 → (∀ x ∈ xs, DS_ x 2 2 340) → DS_ (.tup xs) 3 3 1364 := fun hl hx => (DS_.tup hx).le (Nat.le_refl _) (Nat.le_refl _) (Nat.mul_le_mul_right _ hl)
  cases row with
  | test t n =>
    obtain ⟨ht, hn⟩ := (show t ∈ tests ∧ n < len from h)
    refine fin (by simp) fun x hx => ?_
    simp only [List.mem_cons, List.not_mem_nil, or_false] at hx
    rcases hx with rfl | rfl | rfl
    · exact st rfl
    · exact up (tt _ ht)
    · exact it (by omega)
  | call f =>
    have hn : f < nf := h
    refine fin (by simp) fun x hx => ?_
    simp only [List.mem_cons, List.not_mem_nil, or_false] at hx
    rcases hx with rfl | rfl | rfl | rfl
    · exact st rfl
    · exact st rfl
    · exact it (by omega)
    · exact up rfl
  | go n =>
    have hn : n < len := h
    refine fin (by simp) fun x hx => ?_
    simp only [List.mem_cons, List.not_mem_nil, or_false] at hx
    rcases hx with rfl | rfl
    · exact st rfl
    · exact it (by omega)
  | ret t =>
    have ht : t ∈ rets := h
    refine fin (by simp) fun x hx => ?_
    simp only [List.mem_cons, List.not_mem_nil, or_false] at hx
    rcases hx with rfl | rfl
    · exact st rfl
    · exact up (tr _ ht)
  | oth t =>
    have ht : t ∈ oths := h
    exact (up (to _ ht)).le (by decide) (by decide) (by decide)
def DSs (xs : List MV) (k dp W : Nat) : Prop := ∃ Ds, (∀ mh, Dats mh xs Ds k) ∧ Smalls Ds dp W
theorem DSs.nil {k dp : Nat} : DSs [] k dp 0 := ⟨[], fun _ => .nil, rfl, rfl, by simp [PyData.depthAll], rfl, by simp [PyData.weightAll]⟩
theorem DSs.cons {x : MV} {xs : List MV} {k dp w W : Nat} (a : DS_ x k dp w) (b : DSs xs k dp W) : DSs (x :: xs) k dp (w + 1 + W) := by
  obtain ⟨D, a1, a2⟩ := a
  obtain ⟨Ds, b1, b2⟩ := b
  have c := Smalls.cons a2 b2
  exact ⟨D :: Ds, fun mh => .cons (a1 mh) (b1 mh), c.sh, c.nd, by have := c.dep; omega, c.sho, c.wt⟩
theorem DSs.tup {xs : List MV} {k dp W : Nat} (a : DSs xs k dp W) : DS_ (.tup xs) (k + 1) (dp + 1) W := by
  obtain ⟨Ds, b1, b2⟩ := a
  exact ⟨_, fun mh => .tup (b1 mh), .tup b2⟩
theorem book_data (B : BkOk d r fns) : DS_ (encB d r fns) 10 10 200000 := by
  have := B.d4
  have := B.r4
  have h6 := B.f6
  have st : ∀ {s : List Nat}, lookD 0 (.str s) = true → ∀ n, DS_ (.str s) n n 20 := fun h n => (lookD_ok h).le (by omega) (by omega) (by decide)
  have it : ∀ {i : Int}, i.natAbs < 1000 → ∀ n, DS_ (.int i) n n 10 := fun h n => (DS_.int h).le (by omega) (by omega) (by decide)
  have fn : ∀ x ∈ encFs 0 fns, DS_ x 5 5 18000 := by
    intro x hx
    obtain ⟨i, hi⟩ := List.getElem?_of_mem hx
    rw [encFs_get] at hi
    obtain ⟨rows, e1, e2⟩ := Option.map_eq_some_iff.mp hi
    subst e2
    have H := B.fn rows (List.mem_of_getElem? e1)
    have h12 := H.le
    have hlt := (List.getElem?_eq_some_iff.mp e1).1
    have rw_ : DS_ (.tup (rows.map encR)) 4 4 16380 := by
      refine (DS_.tup (k := 3) (dp := 3) (w := 1364) fun x hx => ?_).le (by decide) (by decide) ?_
      · obtain ⟨row, hr, rfl⟩ := List.mem_map.mp hx
        exact row_data (H.rw_ row hr) h6 h12
      · rw [List.length_map]
        omega
    have ti : lookD 0 (.str [102, 48 + (0 + i)]) = true := by
      show (Nat.ble 2 20 && ([102, 48 + (0 + i)].all fun c => Nat.blt c 1114112)) = true
      simp [Nat.blt_eq]
      omega
    have nm : DS_ namesM 4 4 340 := (lookD_ok (n := 2) (by decide)).le (by decide) (by decide) (by decide)
    exact ((DSs.cons (st rfl 4) (.cons (st ti 4) (.cons (it (by decide) 4) (.cons nm (.cons (st rfl 4) (.cons rw_ .nil)))))).tup).le (by decide) (by decide) (by decide)
  have fs : DS_ (.tup (encFs 0 fns)) 6 6 (6 * 18001) := (DS_.tup fn).le (by decide) (by decide) (by rw [encFs_len]; exact Nat.mul_le_mul_right _ h6)
  exact ((DSs.cons (st rfl 6) (.cons (it (by decide) 6) (.cons (it (by omega) 6) (.cons (it (by omega) 6) (.cons fs .nil))))).tup).le (by decide) (by decide) (by decide)
/-! ### answers -/
abbrev dInts (l : List Int) : PyData := .list (l.map .int)
theorem smalls_ints {l : List Int} (h : ∀ x ∈ l, x.natAbs < 1000) : Smalls (l.map PyData.int) 0 (l.length * 11) := by
  have := Smalls.all (ds := l.map PyData.int) (dp := 0) (w := 10) fun D hD => by
    obtain ⟨x, hx, rfl⟩ := List.mem_map.mp hD
    exact .int (h x hx)
  rwa [List.length_map] at this
theorem small_ints {l : List Int} (h : ∀ x ∈ l, x.natAbs < 1000) (hl : l.length ≤ 100) : Small (dInts l) 1 1100 := (Small.lst (smalls_ints h)).le (by decide) (by omega)
theorem dat_ints {h : MH} {a : Nat} {l : List Int} (e : h[a]? = some (lints l)) : Dat h (.loc a) (dInts l) 1 := Dat.lst e (Dats.ints l)
theorem repr_pair {h : MH} {L a b : Nat} {l : List Int} {Q : MV → MH → Prop} (eL : h[L]? = some (.lst [.loc a, .loc b])) (ea : h[a]? = some (lints l)) (eb : h[b]? = some (lints l)) (hx : ∀ x ∈ l, x.natAbs < 1000) (hl : l.length ≤ 100)
    (q : Q (shw (.list [dInts l, dInts l])) h) : Op (reprN [.loc L] h) Q :=
  Op_repr (k := 2) (dp := 2) (w := 3000) rfl (Dat.lst eL (.cons (dat_ints ea) (.cons (dat_ints eb) .nil))) (by decide)
    ((Small.lst (.cons (small_ints hx hl) (.cons (small_ints hx hl) .nil))).le (by decide) (by decide)) (by decide) (by decide) q
abbrev encPr (p : Int × Int) : MV := .tup [.int p.1, .int p.2]
abbrev dPr (p : Int × Int) : PyData := .tuple [.int p.1, .int p.2]
abbrev dPrs (l : List (Int × Int)) : PyData := .list (l.map dPr)
theorem small_prs {l : List (Int × Int)} (h : ∀ x ∈ l, x.1.natAbs < 1000 ∧ x.2.natAbs < 1000) (hl : l.length ≤ 100) : Small (dPrs l) 2 3000 := by
  have := Smalls.all (ds := l.map dPr) (dp := 1) (w := 22) fun D hD => by
    obtain ⟨x, hx, rfl⟩ := List.mem_map.mp hD
    exact (Small.tup (.cons (.int (h x hx).1) (.cons (.int (h x hx).2) .nil))).le (by decide) (by decide)
  rw [List.length_map] at this
  exact (Small.lst this).le (by decide) (by omega)
theorem dat_prs {h : MH} {a : Nat} {l : List (Int × Int)} (e : h[a]? = some (.lst (l.map encPr))) : Dat h (.loc a) (dPrs l) 2 :=
  Dat.lst e (Dats.map fun x _ => Dat.tup (k := 0) (.cons (.int x.1) (.cons (.int x.2) .nil)))
theorem repr_prs {h : MH} {a : Nat} {l : List (Int × Int)} {Q : MV → MH → Prop} (e : h[a]? = some (.lst (l.map encPr))) (hx : ∀ x ∈ l, x.1.natAbs < 1000 ∧ x.2.natAbs < 1000) (hl : l.length ≤ 100) (q : Q (shw (dPrs l)) h) : Op (reprN [.loc a] h) Q :=
  Op_repr (k := 2) (dp := 2) (w := 3000) rfl (dat_prs e) (by decide) (small_prs hx hl) (by decide) (by decide) q
def dO : Option Nat → PyData
  | none => .none
  | some i => .int i
theorem dat_o {h : MH} (o : Option Nat) : Dat h (frM o) (dO o) 2 := by
  cases o with
  | none => exact Dat.non.le (by decide)
  | some i => exact (Dat.int i).le (by decide)
theorem small_o {o : Option Nat} (h : ∀ i, o = some i → i < 1000) : Small (dO o) 2 10 := by
  cases o with
  | none => exact Small.non.le (by decide) (by decide)
  | some i => exact (Small.int (by have := h i rfl; omega)).le (by decide) (by decide)
theorem repr_four {h : MH} {L a b : Nat} {l : List (Int × Int)} {o : Option Nat} {Q : MV → MH → Prop} (eL : h[L]? = some (.lst [.loc a, .loc b, frM o, frM o])) (ea : h[a]? = some (.lst (l.map encPr))) (eb : h[b]? = some (.lst (l.map encPr)))
    (hx : ∀ x ∈ l, x.1.natAbs < 1000 ∧ x.2.natAbs < 1000) (hl : l.length ≤ 100) (ho : ∀ i, o = some i → i < 1000) (q : Q (shw (.list [dPrs l, dPrs l, dO o, dO o])) h) : Op (reprN [.loc L] h) Q :=
  Op_repr (k := 3) (dp := 3) (w := 7000) rfl (Dat.lst eL (.cons (dat_prs ea) (.cons (dat_prs eb) (.cons (dat_o o) (.cons (dat_o o) .nil))))) (by decide)
    ((Small.lst (.cons (small_prs hx hl) (.cons (small_prs hx hl) (.cons (small_o ho) (.cons (small_o ho) .nil))))).le (by decide) (by decide)) (by decide) (by decide) q
end K23
end L2
end
section
/-! K23N: the law's look at one book. -/
namespace L2
namespace K23
open PySem PySem.Spec PyProof.Rows L2.Vf
-- simp: encR_test
-- simp: encR_call
-- simp: encR_go
-- simp: encR_ret
-- simp: encR_oth
-- simp: encF
-- simp: beqL_self
set_option hygiene false
local macro_rules | `(tactic| walk_at "hget") => `(tactic| first | assumption | exact get_new _ _ | (refine get_old ?_; first | assumption | exact get_new _ _ | (refine get_old ?_; first | assumption | exact get_new _ _ | (refine get_old ?_; first | assumption | exact get_new _ _))))
local macro_rules | `(tactic| walk_at "pre") => `(tactic| first | assumption | exact Pre.refl | exact Pre.app _ | (refine Pre.snoc ?_ _; first | assumption | exact Pre.refl | exact Pre.app _ | (refine Pre.snoc ?_ _; first | assumption | exact Pre.refl | exact Pre.app _)))
local macro_rules | `(tactic| walk_at "ev1") => `(tactic| first
  | (with_reducible refine Os_seqC ?_; intro N' hN') | simp only [↓eqB_, ↓eqI_, ↓eqT_, ↓eqV_, ↓eqM_, ↓eqH_, ↓eqNt, ↓eqNf, ↓eqNs, ↓eqCt, ↓eqCf, ↓eqCn, ↓eqOp, ↓okE_ok, ↓okE_var, ↓okE_con, ↓okE_op1, ↓okE_op2, ↓okE_opN, ↓okE_nil, ↓okE_cons, ↓okE_if, ↓okE_andV, ↓okE_orV, ↓okE_notV, ↓okE_chain, ↓okE_bool, ↓okE_tru, ↓okE_and, ↓okE_or, ↓okE_not, ↓okE_ifB, ↓okE_yes, ↓okE_call, ↓okE_callK, ↓okE_meth, ↓okE_meth0, ↓okE_noPart, ↓okE_part, ↓okE_slice, ↓okE_any, ↓okE_rng1, ↓okE_lc, ↓okE_dnew, ↓okE_pnil, ↓okE_pcons, ↓osE_expr, ↓osE_set, ↓osE_ret, ↓osE_retN, ↓osE_pass, ↓osE_if, ↓osE_asg, ↓osE_sub, ↓okE_disp, ↓osE_name, ↓osE_nilG, ↓osE_consGn, ↓osE_tupT, ↓osE_tupP, ↓osE_par2, ↓osE_par3, ↓osE_for, ↓osE_while, p_isi_non1, p_isi_non2, p_isi_non3, p_isi_non4, p_isi_non5, p_isi_non6, p_isi_bl1, p_isi_bl2, p_isi_bl3, p_isi_bl4, p_isi_bl5, p_isi_bl6, p_isi_int1, p_isi_int2, p_isi_int3, p_isi_int4, p_isi_int5, p_isi_int6, p_isi_str1, p_isi_str2, p_isi_str3, p_isi_str4, p_isi_str5, p_isi_str6, p_isi_tup1, p_isi_tup2, p_isi_tup3, p_isi_tup4, p_isi_tup5, p_isi_tup6, p_isi_fl1, p_isi_fl2, p_isi_fl3, p_isi_fl4, p_isi_fl5, p_isi_fl6, p_ix0, p_ix1, p_ix2, p_ix3, p_ix4, p_ix5, p_ix6, p_ix7, p_lenT, p_lt, p_le, p_gt, p_ge, p_eqI, p_neI, p_eqS, p_neS, p_add, p_sub, p_is_non, p_isnot_non, p_is_bl, p_isnot_bl, p_is_int, p_isnot_int, p_is_str, p_isnot_str, p_is_tup, p_isnot_tup, p_is_fl, p_isnot_fl, p_is_loc, p_isnot_loc, p_trB, p_trN, p_trT0, p_trT, p_tup0, p_lst0, p_tup1, p_lst1, p_tup2, p_lst2, p_tup3, p_lst3, p_tup4, p_lst4, p_tup5, p_lst5, p_tup6, p_lst6, p_tup7, p_lst7, p_tup8, p_lst8, p_int, p_abs, v0, wipeE, List.length_cons, List.length_nil, List.length_map, List.map_cons, List.map_nil, List.cons_append, List.nil_append, List.replicate, List.getElem?_cons_succ, List.getElem?_cons_zero, List.set_cons_zero, List.set_cons_succ, Nat.reduceAdd, Nat.reduceSub, Int.cast_ofNat_Int, Int.reduceEq, Int.reduceLE, Int.reduceLT, Int.reduceAdd, Int.reduceSub, Int.reduceNeg, Nat.reduceEqDiff, decide_true, decide_false, Bool.not_true, Bool.not_false, true_and, and_true, and_self, g_BOOK, g_FUNCTION, g_WORD, g_LINK, g_KINDS, g_VAL, g_NEXT, g_LEAST_WIDTH, g_MOST_WIDTH, g_MOST_DEPTH, g_MOST_ROOM, g_MOST_FUNCTIONS, g_MOST_PARAMS, g_MOST_NAMES, g_MOST_BOOK_ROWS, g_MOST_TERM_DEEP, g_MOST_TITLE, kw_row_ways_0, kw_called_by_0, kw_reached_rows_0, kw_frames_wanted_0, encR_test, encR_call, encR_go, encR_ret, encR_oth, encF, beqL_self]
  | ((with_reducible show Cd _ _ _); first | refine Cd_pos rfl ?_ | refine Cd_neg rfl ?_ | refine Cd_pos (decide_eq_true (by omega)) ?_ | refine Cd_neg (decide_eq_false (by omega)) ?_ | refine Cd_pos (by assumption) ?_ | refine Cd_neg (by assumption) ?_)
  | ((with_reducible show Op _ _); first | with_reducible refine Op_ixT (by assumption) ?_ | ((with_reducible show Op (ixM (.loc _) _ _) _); refine Op_ix (by walk_at "hget") (by assumption) ?_) | ((with_reducible show Op (getDM (.loc _) _ _) _); first | refine Op_getS (by walk_at "hget") rfl rfl ?_ | refine Op_getN (by walk_at "hget") rfl rfl ?_) | ((with_reducible show Op (inM (.str _) _ _) _); refine Op_inTup (xs := _) rfl rfl rfl rfl ?_) | ((with_reducible show Op (notinM (.str _) _ _) _); refine Op_notinTup (xs := _) rfl rfl rfl rfl ?_) | refine Op_mk rfl ?_)
  | ((with_reducible refine hN' _ _ ?_); clear hN') | (clear hN'; (with_reducible refine hN' _ _ ?_); clear hN') | (clear hN'; clear hN'; (with_reducible refine hN' _ _ ?_); clear hN') | ((with_reducible show Q _ _); first | exact q | refine q _ ?_ | refine q _ _ ?_ ?_ ?_ | refine q _ _ ?_ ?_)
  | ((with_reducible show Pre _ _); walk_at "pre") | ((with_reducible show ON _ _ _); refine ON_l (by walk_at "hget") ?_) | ((with_reducible show OM _ _); first | refine OM_l (by walk_at "hget") ?_ | refine OM_d (by walk_at "hget") ?_) | ((with_reducible show (_ = _ ∧ _ = _ ∧ _ = _) ∧ _); refine ⟨⟨rfl, rfl, rfl⟩, ?_⟩)
  | ((with_reducible show ∃ _, _ = _ ∧ _); refine ⟨_, rfl, ?_⟩))
local macro_rules | `(tactic| walk_at "ev") => `(tactic| repeat walk_at "ev1")
local macro_rules | `(tactic| walk_at "ev1") => `(tactic| ((with_reducible show Ok (rp _ _ _ _ _) _); first | with_reducible refine o_is_integer ?_ | with_reducible refine o_is_within (by omega) (by omega) ?_ | ((with_reducible show Ok (rp _ _ i_is_tuple _ _) _); refine o_is_tuple rfl ?_) | ((with_reducible show Ok (rp _ _ i_is_kind _ _) _); refine o_is_kind (by first | exact .inl rfl | exact .inr rfl) ?_) | ((with_reducible show Ok (rp _ _ i_is_worded_row _ _) _); refine o_worded rfl ?_) | ((with_reducible show Ok (rp _ _ i_is_named _ _) _); refine r_is_named rfl ?_; unfold d_is_named) | ((with_reducible show Ok (rp _ _ i_rows_of_function _ _) _); refine r_rows_of_function rfl ?_; unfold d_rows_of_function)))
variable {F k : Nat} {mh : MH} {Q : MV → MH → Prop} {d r f n : Nat} {fns : List (List Rw)} {rows : List Rw}
/-- the answers so far: inner at I, calls at C -/
structure Lst (fns : List (List Rw)) (h : MH) (p I C : Nat) (li lc : List Nat) : Prop where
  pot : Pot h p
  pI : p < I
  IC : I < C
  gi : h[I]? = some (.lst (li.map .loc))
  gc : h[C]? = some (.lst (lc.map .loc))
  ii : ∀ (j w : Nat), li[j]? = some w → C < w ∧ h[w]? = some (lints (reachOf fns (j : Nat)))
  ic : ∀ (j w : Nat), lc[j]? = some w → C < w ∧ h[w]? = some (lints (cg fns (j : Nat)))
theorem Lst.mono {h h2 : MH} {p I C : Nat} {li lc : List Nat} (L : Lst fns h p I C li lc) (a : Pre h h2) : Lst fns h2 p I C li lc := by
  refine ⟨?_, L.pI, L.IC, a.get L.gi, a.get L.gc, fun j w e => ⟨(L.ii j w e).1, a.get (L.ii j w e).2⟩, fun j w e => ⟨(L.ic j w e).1, a.get (L.ic j w e).2⟩⟩
  obtain ⟨x, y, e, r⟩ := L.pot.ex
  exact ⟨x, y, a.get e, r⟩
theorem Lst.addI {h : MH} {p I C w : Nat} {li lc : List Nat} (L : Lst fns h p I C li lc) (hw : C < w) (hg : h[w]? = some (lints (reachOf fns (li.length : Nat)))) : Lst fns (h.set I (.lst ((li ++ [w]).map .loc))) p I C (li ++ [w]) lc := by
  have h1 := L.pI
  have h2 := L.IC
  refine ⟨?_, h1, h2, get_set L.gi, get_other L.gc (by omega), fun j v e => ?_, fun j v e => ?_⟩
  · obtain ⟨x, y, e, r⟩ := L.pot.ex
    exact ⟨x, y, by rw [List.getElem?_set_ne (by omega)]; exact e, r⟩
  · have key : C < v ∧ h[v]? = some (lints (reachOf fns (j : Nat))) := by
      by_cases hj : j < li.length
      · rw [List.getElem?_append_left hj] at e; exact L.ii j v e
      · have hlt := (List.getElem?_eq_some_iff.mp e).1
        rw [List.length_append, List.length_singleton] at hlt
        have : j = li.length := by omega
        subst this
        simp at e
        subst e
        exact ⟨hw, hg⟩
    exact ⟨key.1, by rw [List.getElem?_set_ne (by have := key.1; omega)]; exact key.2⟩
  · have key := L.ic j v e
    exact ⟨key.1, by rw [List.getElem?_set_ne (by have := key.1; omega)]; exact key.2⟩
theorem Lst.addC {h : MH} {p I C w : Nat} {li lc : List Nat} (L : Lst fns h p I C li lc) (hw : C < w) (hg : h[w]? = some (lints (cg fns (lc.length : Nat)))) : Lst fns (h.set C (.lst ((lc ++ [w]).map .loc))) p I C li (lc ++ [w]) := by
  have h1 := L.pI
  have h2 := L.IC
  refine ⟨?_, h1, h2, get_other L.gi (by omega), get_set L.gc, fun j v e => ?_, fun j v e => ?_⟩
  · obtain ⟨x, y, e, r⟩ := L.pot.ex
    exact ⟨x, y, by rw [List.getElem?_set_ne (by omega)]; exact e, r⟩
  · have key := L.ii j v e
    exact ⟨key.1, by rw [List.getElem?_set_ne (by have := key.1; omega)]; exact key.2⟩
  · have key : C < v ∧ h[v]? = some (lints (cg fns (j : Nat))) := by
      by_cases hj : j < lc.length
      · rw [List.getElem?_append_left hj] at e; exact L.ic j v e
      · have hlt := (List.getElem?_eq_some_iff.mp e).1
        rw [List.length_append, List.length_singleton] at hlt
        have : j = lc.length := by omega
        subst this
        simp at e
        subst e
        exact ⟨hw, hg⟩
    exact ⟨key.1, by rw [List.getElem?_set_ne (by have := key.1; omega)]; exact key.2⟩
/-- one row: its ways asked twice -/
theorem row_turn {p I C W j w : Nat} {row : Rw} {z3 z4 z7 z10 z12 : Option MV} {h : MH} {N : Env' → MH → Prop} {R : MV → MH → Prop} (B : BkOk d r fns) (hf : fns[f]? = some rows) (hi : rows[j]? = some row) (hF : 60 ≤ F) (hg : h[w]? = some (lints (ways rows j)))
    (q : ∀ z12 h2, Pre h h2 → N [some (.loc p), some (encB d r fns), some (.int f), z3, z4, some (.loc I), some (.loc C), z7, some (.loc W), some (.loc w), z10, some (.int j), z12] h2) :
    Os (fb__law_right_4 ⟨rp F (k + 10), F⟩ [some (.loc p), some (encB d r fns), some (.int f), z3, z4, some (.loc I), some (.loc C), z7, some (.loc W), some (.loc w), z10, some (.int j), z12] h) N R := by
  unfold fb__law_right_4
  have H := B.fn rows (List.mem_of_getElem? hf)
  have h12 := H.le
  have hjl := (List.getElem?_eq_some_iff.mp hi).1
  have hin := H.inn
  walk_at "ev"
  refine o_row_ways B hf hi hF ?_
  intro a h2 p2 ha2 ga2
  walk_at "ev"
  refine o_row_ways B hf hi hF ?_
  intro b h3 p3 hb3 gb3
  walk_at "ev"
  have hx : ∀ x ∈ ways rows (j : Nat), x.natAbs < 1000 := fun x hx => by
    have := hin.2 j (by omega) (by omega) x hx
    omega
  have hl := ways_len (rows := rows) (j : Nat)
  refine repr_pair (get_new _ _) (get_old (p3.get ga2)) (get_old gb3) hx (by omega) ?_
  walk_at "ev"
  refine repr_pair (get_new _ _) (get_old (get_old ((p2.trans p3).get hg))) (get_old (get_old ((p2.trans p3).get hg))) hx (by omega) ?_
  walk_at "ev"
  refine OM_l (get_old (get_old (p3.get ga2))) ?_
  walk_at "ev"
  refine Op_append (get_old (get_old (p3.get ga2))) (by rw [List.length_map]; omega) ?_
  walk_at "ev"
  exact q _ _ ((((p2.trans p3).snoc _).snoc _).set ha2)
end K23
end L2
end
section
/-! K23O: one function, the whole look. -/
namespace L2
namespace K23
open PySem PySem.Spec PyProof.Rows L2.Vf
-- simp: encR_test
-- simp: encR_call
-- simp: encR_go
-- simp: encR_ret
-- simp: encR_oth
-- simp: encF
-- simp: beqL_self
set_option hygiene false
local macro_rules | `(tactic| walk_at "hget") => `(tactic| first | assumption | exact get_new _ _ | (refine get_old ?_; first | assumption | exact get_new _ _ | (refine get_old ?_; first | assumption | exact get_new _ _ | (refine get_old ?_; first | assumption | exact get_new _ _))))
local macro_rules | `(tactic| walk_at "pre") => `(tactic| first | assumption | exact Pre.refl | exact Pre.app _ | (refine Pre.snoc ?_ _; first | assumption | exact Pre.refl | exact Pre.app _ | (refine Pre.snoc ?_ _; first | assumption | exact Pre.refl | exact Pre.app _)))
local macro_rules | `(tactic| walk_at "ev1") => `(tactic| first
  | (with_reducible refine Os_seqC ?_; intro N' hN') | simp only [↓eqB_, ↓eqI_, ↓eqT_, ↓eqV_, ↓eqM_, ↓eqH_, ↓eqNt, ↓eqNf, ↓eqNs, ↓eqCt, ↓eqCf, ↓eqCn, ↓eqOp, ↓okE_ok, ↓okE_var, ↓okE_con, ↓okE_op1, ↓okE_op2, ↓okE_opN, ↓okE_nil, ↓okE_cons, ↓okE_if, ↓okE_andV, ↓okE_orV, ↓okE_notV, ↓okE_chain, ↓okE_bool, ↓okE_tru, ↓okE_and, ↓okE_or, ↓okE_not, ↓okE_ifB, ↓okE_yes, ↓okE_call, ↓okE_callK, ↓okE_meth, ↓okE_meth0, ↓okE_noPart, ↓okE_part, ↓okE_slice, ↓okE_any, ↓okE_rng1, ↓okE_lc, ↓okE_dnew, ↓okE_pnil, ↓okE_pcons, ↓osE_expr, ↓osE_set, ↓osE_ret, ↓osE_retN, ↓osE_pass, ↓osE_if, ↓osE_asg, ↓osE_sub, ↓okE_disp, ↓osE_name, ↓osE_nilG, ↓osE_consGn, ↓osE_tupT, ↓osE_tupP, ↓osE_par2, ↓osE_par3, ↓osE_for, ↓osE_while, p_isi_non1, p_isi_non2, p_isi_non3, p_isi_non4, p_isi_non5, p_isi_non6, p_isi_bl1, p_isi_bl2, p_isi_bl3, p_isi_bl4, p_isi_bl5, p_isi_bl6, p_isi_int1, p_isi_int2, p_isi_int3, p_isi_int4, p_isi_int5, p_isi_int6, p_isi_str1, p_isi_str2, p_isi_str3, p_isi_str4, p_isi_str5, p_isi_str6, p_isi_tup1, p_isi_tup2, p_isi_tup3, p_isi_tup4, p_isi_tup5, p_isi_tup6, p_isi_fl1, p_isi_fl2, p_isi_fl3, p_isi_fl4, p_isi_fl5, p_isi_fl6, p_ix0, p_ix1, p_ix2, p_ix3, p_ix4, p_ix5, p_ix6, p_ix7, p_lenT, p_lt, p_le, p_gt, p_ge, p_eqI, p_neI, p_eqS, p_neS, p_add, p_sub, p_is_non, p_isnot_non, p_is_bl, p_isnot_bl, p_is_int, p_isnot_int, p_is_str, p_isnot_str, p_is_tup, p_isnot_tup, p_is_fl, p_isnot_fl, p_is_loc, p_isnot_loc, p_trB, p_trN, p_trT0, p_trT, p_tup0, p_lst0, p_tup1, p_lst1, p_tup2, p_lst2, p_tup3, p_lst3, p_tup4, p_lst4, p_tup5, p_lst5, p_tup6, p_lst6, p_tup7, p_lst7, p_tup8, p_lst8, p_int, p_abs, v0, wipeE, List.length_cons, List.length_nil, List.length_map, List.map_cons, List.map_nil, List.cons_append, List.nil_append, List.replicate, List.getElem?_cons_succ, List.getElem?_cons_zero, List.set_cons_zero, List.set_cons_succ, Nat.reduceAdd, Nat.reduceSub, Int.cast_ofNat_Int, Int.reduceEq, Int.reduceLE, Int.reduceLT, Int.reduceAdd, Int.reduceSub, Int.reduceNeg, Nat.reduceEqDiff, decide_true, decide_false, Bool.not_true, Bool.not_false, true_and, and_true, and_self, g_BOOK, g_FUNCTION, g_WORD, g_LINK, g_KINDS, g_VAL, g_NEXT, g_LEAST_WIDTH, g_MOST_WIDTH, g_MOST_DEPTH, g_MOST_ROOM, g_MOST_FUNCTIONS, g_MOST_PARAMS, g_MOST_NAMES, g_MOST_BOOK_ROWS, g_MOST_TERM_DEEP, g_MOST_TITLE, kw_row_ways_0, kw_called_by_0, kw_reached_rows_0, kw_frames_wanted_0, encR_test, encR_call, encR_go, encR_ret, encR_oth, encF, beqL_self]
  | ((with_reducible show Cd _ _ _); first | refine Cd_pos rfl ?_ | refine Cd_neg rfl ?_ | refine Cd_pos (decide_eq_true (by omega)) ?_ | refine Cd_neg (decide_eq_false (by omega)) ?_ | refine Cd_pos (by assumption) ?_ | refine Cd_neg (by assumption) ?_)
  | ((with_reducible show Op _ _); first | with_reducible refine Op_ixT (by assumption) ?_ | ((with_reducible show Op (ixM (.loc _) _ _) _); refine Op_ix (by walk_at "hget") (by assumption) ?_) | ((with_reducible show Op (getDM (.loc _) _ _) _); first | refine Op_getS (by walk_at "hget") rfl rfl ?_ | refine Op_getN (by walk_at "hget") rfl rfl ?_) | ((with_reducible show Op (inM (.str _) _ _) _); refine Op_inTup (xs := _) rfl rfl rfl rfl ?_) | ((with_reducible show Op (notinM (.str _) _ _) _); refine Op_notinTup (xs := _) rfl rfl rfl rfl ?_) | refine Op_mk rfl ?_)
  | ((with_reducible refine hN' _ _ ?_); clear hN') | (clear hN'; (with_reducible refine hN' _ _ ?_); clear hN') | (clear hN'; clear hN'; (with_reducible refine hN' _ _ ?_); clear hN') | ((with_reducible show Q _ _); first | exact q | refine q _ ?_ | refine q _ _ ?_ ?_ ?_ | refine q _ _ ?_ ?_)
  | ((with_reducible show Pre _ _); walk_at "pre") | ((with_reducible show ON _ _ _); refine ON_l (by walk_at "hget") ?_) | ((with_reducible show OM _ _); first | refine OM_l (by walk_at "hget") ?_ | refine OM_d (by walk_at "hget") ?_) | ((with_reducible show (_ = _ ∧ _ = _ ∧ _ = _) ∧ _); refine ⟨⟨rfl, rfl, rfl⟩, ?_⟩)
  | ((with_reducible show ∃ _, _ = _ ∧ _); refine ⟨_, rfl, ?_⟩))
local macro_rules | `(tactic| walk_at "ev") => `(tactic| repeat walk_at "ev1")
local macro_rules | `(tactic| walk_at "ev1") => `(tactic| ((with_reducible show Ok (rp _ _ _ _ _) _); first | with_reducible refine o_is_integer ?_ | with_reducible refine o_is_within (by omega) (by omega) ?_ | ((with_reducible show Ok (rp _ _ i_is_tuple _ _) _); refine o_is_tuple rfl ?_) | ((with_reducible show Ok (rp _ _ i_is_kind _ _) _); refine o_is_kind (by first | exact .inl rfl | exact .inr rfl) ?_) | ((with_reducible show Ok (rp _ _ i_is_worded_row _ _) _); refine o_worded rfl ?_) | ((with_reducible show Ok (rp _ _ i_is_named _ _) _); refine r_is_named rfl ?_; unfold d_is_named) | ((with_reducible show Ok (rp _ _ i_rows_of_function _ _) _); refine r_rows_of_function rfl ?_; unfold d_rows_of_function)))
variable {F k : Nat} {mh : MH} {Q : MV → MH → Prop} {d r f n : Nat} {fns : List (List Rw)} {rows : List Rw}
theorem snoc_locs (l : List Nat) (a : Nat) : MO.lst (l.map MV.loc ++ [.loc a]) = .lst ((l ++ [a]).map .loc) := by simp
theorem fn_turnX {p I C i : Nat} {li lc : List Nat} {z7 z8 z9 z10 z11 z12 : Option MV} {sh : List Nat} {h : MH} {N : Env' → MH → Prop} {R : MV → MH → Prop} {X : RsS} (B : BkOk d r fns) (hf : fns[i]? = some rows) (hF : 70 ≤ F) (L : Lst fns h p I C li lc) (hli : li.length = i) (hlc : lc.length = i)
    (q : ∀ z7 z8 z9 z11 z12 h2 wi wc, Lst fns h2 p I C (li ++ [wi]) (lc ++ [wc]) → N [some (.loc p), some (encB d r fns), some (.int i), some (encF i rows), some (.str sh), some (.loc I), some (.loc C), z7, z8, z9, z10, z11, z12] h2)
    (hX : X = fb__law_right_6 ⟨rp F (k + 10), F⟩ [some (.loc p), some (encB d r fns), some (.int i), some (encF i rows), some (.str sh), some (.loc I), some (.loc C), z7, z8, z9, z10, z11, z12] h) : Os X N R := by
  rw [hX]
  clear hX
  unfold fb__law_right_6
  have H := B.fn rows (List.mem_of_getElem? hf)
  have h12 := H.le
  have hin := H.inn
  have hlt := (List.getElem?_eq_some_iff.mp hf).1
  have h6 := B.f6
  have hCl : C < h.length := lt_of_get L.gc
  walk_at "ev"
  rw [show ((rows.length : Nat) : Int) = ((rows.length : Nat) : Int) from rfl]
  refine ⟨inR_nat (by omega), ?_⟩
  rw [Int.toNat_natCast]
  obtain ⟨xs, m, e3, p3, ls, rfl, lsl, lsi⟩ := lc_run (nxt := nxtR 0 rows.length) (g := nameG 11) (tt := yesD) (te := ce__law_right_5) (rt := ⟨rp F (k + 10), F⟩) (env := [some (.loc p), some (encB d r fns), some (.int i), some (encF i rows), some (.str sh), some (.loc I), some (.loc C), some (.tup (rows.map encR)), z8, z9, z10, none, z12])
    (fun t acc h2 => Pre h h2 ∧ ∃ ls : List Nat, acc = ls.map .loc ∧ ls.length = t ∧ ∀ (j w : Nat), ls[j]? = some w → h2[w]? = some (lints (ways rows (j : Nat)))) rows.length (by omega) (by
      rintro t acc h2 ht ⟨p2, ls, rfl, lsl, lsi⟩
      refine ⟨.int (t : Nat), by rw [nxtR_at, if_pos ht, Int.zero_add], ?_⟩
      have hi := mem_row ht
      walk_at "ev"
      unfold ce__law_right_5
      walk_at "ev"
      refine o_law_ways hi (H.rw_ _ (List.mem_of_getElem? hi)) ?_
      intro w h3 p3 hw hg
      refine ⟨p2.trans p3, ls ++ [w], by simp, by simp; omega, fun j v e => ?_⟩
      by_cases hj : j < ls.length
      · rw [List.getElem?_append_left hj] at e
        exact p3.get (lsi j v e)
      · have hlt := (List.getElem?_eq_some_iff.mp e).1
        rw [List.length_append, List.length_singleton] at hlt
        have : j = ls.length := by omega
        subst this
        simp at e
        subst e
        rw [lsl]; exact hg) (by
      intro acc h2 _
      rw [nxtR_at, if_neg (by omega)]) rows.length F 0 [] h (by omega) (by omega) ⟨.refl, [], rfl, rfl, fun j w e => by simp at e⟩
  refine ⟨_, _, e3, ?_⟩
  have T : Tbl (m ++ [.lst (ls.map .loc)]) m.length (ways rows) rows.length ls := ⟨get_new _ _, lsl, fun j w e => get_old (lsi j w e)⟩
  have L2 := L.mono (p3.snoc (.lst (ls.map .loc)))
  have hCm : C < m.length := by have := p3.le; omega
  generalize m ++ [MO.lst (ls.map .loc)] = h2 at *
  generalize m.length = W at *
  walk_at "ev"
  refine Ok_enum ?_
  walk_at "ev"
  refine ⟨_, ls.map .loc, rfl, by simp only [srcL, T.at_], ?_⟩
  refine Os_forL (fun j e h3 => ∃ z9 z11 z12, e = [some (.loc p), some (encB d r fns), some (.int i), some (encF i rows), some (.str sh), some (.loc I), some (.loc C), some (.tup (rows.map encR)), some (.loc W), z9, z10, z11, z12] ∧ Pre h2 h3) rows.length ?_ ?_ rows.length F 0 _ _ (by omega) (by omega) ⟨_, _, _, rfl, .refl⟩
  · rintro j e h3 hj ⟨z9, z11, z12, rfl, p4⟩
    have T3 := T.mono p4
    have hlj : ls[j]? = some (ls[j]'(by omega)) := by simp [show j < ls.length from by omega]
    generalize ls[j]'(by omega) = w at hlj
    refine ⟨.pr [.int j, .loc w], ?_, ?_⟩
    · unfold nxtE
      simp only [srcL, T3.at_, List.getElem?_map, hlj, Option.map_some]
    walk_at "ev"
    refine row_turn B hf (mem_row hj) (by omega) (T3.it j w hlj) ?_
    intro z h4 p5
    exact ⟨_, _, _, rfl, p4.trans p5⟩
  · rintro e h3 ⟨z9, z11, z12, rfl, p4⟩
    have T3 := T.mono p4
    refine ⟨?_, ?_⟩
    · unfold nxtE
      simp only [srcL, T3.at_, List.length_map, lsl, Nat.beq_refl]
      rw [List.getElem?_eq_none (by simp; omega)]
      rfl
    have L3 := L2.mono p4
    walk_at "ev"
    refine OM_l L3.gi ?_
    walk_at "ev"
    refine o_closed T3 hin (D := 2) (fun a _ _ => ways_len a) (by omega) hF ?_
    intro wi h4 p5 hwi gwi
    have L4 := L3.mono p5
    walk_at "ev"
    refine Op_append L4.gi (by rw [List.length_map]; omega) ?_
    rw [snoc_locs]
    have hCw : C < wi := by
      have := lt_of_get L3.gc
      omega
    have L5 := L4.addI hCw (by rw [hli, reachOf_eq hf]; exact gwi)
    have gw5 : (h4.set I (.lst ((li ++ [wi]).map .loc)))[wi]? = some (lints (clo (ways rows))) := by
      have := L3.IC
      rw [List.getElem?_set_ne (by omega)]
      exact gwi
    generalize h4.set I (.lst ((li ++ [wi]).map .loc)) = h5 at *
    walk_at "ev"
    refine OM_l L5.gc ?_
    walk_at "ev"
    refine Op_ixLastL (ys := li.map .loc) (v := .loc wi) (by rw [L5.gi]; simp) ?_
    walk_at "ev"
    have cl := clo_is hin
    have hcl := clo_len hin cl
    obtain ⟨m2, e6, p6⟩ := lc_filt (nxt := nxtL wi) (g := nameG 11) (tt := cc__law_right_2) (te := ce__law_right_3) (rt := ⟨rp F (k + 10), F⟩) (env := [some (.loc p), some (encB d r fns), some (.int i), some (encF i rows), some (.str sh), some (.loc I), some (.loc C), some (.tup (rows.map encR)), some (.loc W), z9, z10, none, z12]) (mh := h5) (xs := (clo (ways rows)).map .int) (F := F) (pCall rows) (fCall rows)
      (by simp; omega) (by simp; omega) (fun h hp i => nxtL_at (hp.get gw5) i) (fun x hx h hp => by
        refine ⟨_, rfl, ?_⟩
        unfold cc__law_right_2
        obtain ⟨a, ha, rfl⟩ := List.mem_map.mp hx
        have hb := ((cl.mem a).mp ha).inn hin
        obtain ⟨j, rfl⟩ := Int.eq_ofNat_of_zero_le hb.1
        have hi := mem_row (rows := rows) (i := j) (by omega)
        have hr := H.rw_ _ (List.mem_of_getElem? hi)
        generalize rows[j] = row at hi hr
        have e2 := row_get hi
        have ec := callAt_eq hi
        cases row with
        | call g =>
          walk_at "ev"
          refine ⟨by simp [pCall, ec, callR] <;> rfl, .refl, fun _ => ?_⟩
          unfold ce__law_right_3
          walk_at "ev"
          exact ⟨by simp [fCall, ec, callR], .refl⟩
        | oth t =>
          obtain ⟨w, xs, rfl, h1, h2, h3, h4⟩ := oths_first hr
          walk_at "ev"
          refine ⟨by simp [pCall, ec, callR]; exact h4, .refl, fun z => ?_⟩
          rw [h4] at z
          cases z
        | go n =>
          walk_at "ev"
          refine ⟨by simp [pCall, ec, callR]; rfl, .refl, fun z => ?_⟩
          cases z
        | ret n =>
          walk_at "ev"
          refine ⟨by simp [pCall, ec, callR]; rfl, .refl, fun z => ?_⟩
          cases z
        | test t n =>
          walk_at "ev"
          refine ⟨by simp [pCall, ec, callR]; rfl, .refl, fun z => ?_⟩
          cases z)
    refine ⟨_, _, e6, ?_⟩
    rw [fm_calls]
    have hl2 := List.length_filterMap_le (callAt rows) (clo (ways rows))
    refine Op_srtset (get_new _ _) (by omega) ?_
    rw [show ssort ((clo (ways rows)).filterMap (callAt rows)) = callsOf rows from rfl]
    have p7 := (p6.snoc (lints ((clo (ways rows)).filterMap (callAt rows)))).snoc (lints (callsOf rows))
    have L6 := L5.mono p7
    have gc6 := get_new (m2 ++ [lints ((clo (ways rows)).filterMap (callAt rows))]) (lints (callsOf rows))
    have hCc : C < (m2 ++ [lints ((clo (ways rows)).filterMap (callAt rows))]).length := by
      have := lt_of_get L5.gc
      have := p6.le
      rw [List.length_append]
      omega
    walk_at "ev"
    refine Op_append L6.gc (by rw [List.length_map]; omega) ?_
    rw [snoc_locs]
    have L7 := L6.addC hCc (by rw [hlc, cg_eq hf]; exact gc6)
    have gc7 := get_other (p := C) (x := .lst ((lc ++ [(m2 ++ [lints ((clo (ways rows)).filterMap (callAt rows))]).length]).map .loc)) gc6 (by omega)
    walk_at "ev1"
    generalize ((m2 ++ [lints ((clo (ways rows)).filterMap (callAt rows))]) ++ [lints (callsOf rows)]).set C (.lst ((lc ++ [(m2 ++ [lints ((clo (ways rows)).filterMap (callAt rows))]).length]).map .loc)) = h7 at *
    generalize (m2 ++ [lints ((clo (ways rows)).filterMap (callAt rows))]).length = wc at *
    walk_at "ev"
    refine o_called_by B hf (by omega) ?_
    intro a h8 p8 ha8 ga8
    walk_at "ev"
    refine o_called_by B hf (by omega) ?_
    intro b h9 p9 hb9 gb9
    walk_at "ev"
    have hx : ∀ x ∈ callsOf rows, x.natAbs < 1000 := fun x hx => by
      have := calls_mem H hx
      omega
    have hlc2 := callsOf_len H
    refine repr_pair (get_new _ _) (get_old (p9.get ga8)) (get_old gb9) hx (by omega) ?_
    walk_at "ev"
    have L9 := (L7.mono (p8.trans p9)).mono (.app [.lst [.loc a, .loc b]])
    have gc9 := get_old (x := .lst [.loc a, .loc b]) ((p8.trans p9).get gc7)
    refine Op_ixLastL (ys := lc.map .loc) (v := .loc wc) (by rw [L9.gc]; simp) ?_
    walk_at "ev"
    refine Op_ixLastL (ys := lc.map .loc) (v := .loc wc) (by rw [L9.gc]; simp) ?_
    walk_at "ev"
    refine repr_pair (get_new _ _) (get_old gc9) (get_old gc9) hx (by omega) ?_
    walk_at "ev"
    exact q _ _ _ _ _ _ _ _ (L9.mono (.app _))
/-- one function's turn, under a seal -/
@[irreducible] def FbT (F k : Nat) (env : Env') (h : MH) (N : Env' → MH → Prop) (R : MV → MH → Prop) : Prop := Os (fb__law_right_6 ⟨rp F (k + 10), F⟩ env h) N R
theorem FbT_eq (F k : Nat) (env : Env') (h : MH) (N : Env' → MH → Prop) (R : MV → MH → Prop) : FbT F k env h N R = Os (fb__law_right_6 ⟨rp F (k + 10), F⟩ env h) N R := by unfold FbT; rfl
theorem fn_turnI {p I C i : Nat} {li lc : List Nat} {z7 z8 z9 z10 z11 z12 : Option MV} {sh : List Nat} {h : MH} {N : Env' → MH → Prop} {R : MV → MH → Prop} (B : BkOk d r fns) (hf : fns[i]? = some rows) (hF : 70 ≤ F) (L : Lst fns h p I C li lc) (hli : li.length = i) (hlc : lc.length = i)
    (q : ∀ z7 z8 z9 z11 z12 h2 wi wc, Lst fns h2 p I C (li ++ [wi]) (lc ++ [wc]) → N [some (.loc p), some (encB d r fns), some (.int i), some (encF i rows), some (.str sh), some (.loc I), some (.loc C), z7, z8, z9, z10, z11, z12] h2) :
    FbT F k [some (.loc p), some (encB d r fns), some (.int i), some (encF i rows), some (.str sh), some (.loc I), some (.loc C), z7, z8, z9, z10, z11, z12] h N R := by
  rw [FbT_eq]
  generalize hX : fb__law_right_6 ⟨rp F (k + 10), F⟩ [some (.loc p), some (encB d r fns), some (.int i), some (encF i rows), some (.str sh), some (.loc I), some (.loc C), z7, z8, z9, z10, z11, z12] h = X
  exact fn_turnX B hf hF L hli hlc q hX.symm
end K23
end L2
end
section
/-! K23P: the whole look. -/
namespace L2
namespace K23
open PySem PySem.Spec PyProof.Rows L2.Vf
-- simp: encR_test
-- simp: encR_call
-- simp: encR_go
-- simp: encR_ret
-- simp: encR_oth
-- simp: encF
-- simp: beqL_self
set_option hygiene false
local macro_rules | `(tactic| walk_at "hget") => `(tactic| first | assumption | exact get_new _ _ | (refine get_old ?_; first | assumption | exact get_new _ _ | (refine get_old ?_; first | assumption | exact get_new _ _ | (refine get_old ?_; first | assumption | exact get_new _ _))))
local macro_rules | `(tactic| walk_at "pre") => `(tactic| first | assumption | exact Pre.refl | exact Pre.app _ | (refine Pre.snoc ?_ _; first | assumption | exact Pre.refl | exact Pre.app _ | (refine Pre.snoc ?_ _; first | assumption | exact Pre.refl | exact Pre.app _)))
local macro_rules | `(tactic| walk_at "ev1") => `(tactic| first
  | (with_reducible refine Os_seqC ?_; intro N' hN') | simp only [↓eqB_, ↓eqI_, ↓eqT_, ↓eqV_, ↓eqM_, ↓eqH_, ↓eqNt, ↓eqNf, ↓eqNs, ↓eqCt, ↓eqCf, ↓eqCn, ↓eqOp, ↓okE_ok, ↓okE_var, ↓okE_con, ↓okE_op1, ↓okE_op2, ↓okE_opN, ↓okE_nil, ↓okE_cons, ↓okE_if, ↓okE_andV, ↓okE_orV, ↓okE_notV, ↓okE_chain, ↓okE_bool, ↓okE_tru, ↓okE_and, ↓okE_or, ↓okE_not, ↓okE_ifB, ↓okE_yes, ↓okE_call, ↓okE_callK, ↓okE_meth, ↓okE_meth0, ↓okE_noPart, ↓okE_part, ↓okE_slice, ↓okE_any, ↓okE_rng1, ↓okE_lc, ↓okE_dnew, ↓okE_pnil, ↓okE_pcons, ↓osE_expr, ↓osE_set, ↓osE_ret, ↓osE_retN, ↓osE_pass, ↓osE_if, ↓osE_asg, ↓osE_sub, ↓okE_disp, ↓osE_name, ↓osE_nilG, ↓osE_consGn, ↓osE_tupT, ↓osE_tupP, ↓osE_par2, ↓osE_par3, ↓osE_for, ↓osE_while, p_isi_non1, p_isi_non2, p_isi_non3, p_isi_non4, p_isi_non5, p_isi_non6, p_isi_bl1, p_isi_bl2, p_isi_bl3, p_isi_bl4, p_isi_bl5, p_isi_bl6, p_isi_int1, p_isi_int2, p_isi_int3, p_isi_int4, p_isi_int5, p_isi_int6, p_isi_str1, p_isi_str2, p_isi_str3, p_isi_str4, p_isi_str5, p_isi_str6, p_isi_tup1, p_isi_tup2, p_isi_tup3, p_isi_tup4, p_isi_tup5, p_isi_tup6, p_isi_fl1, p_isi_fl2, p_isi_fl3, p_isi_fl4, p_isi_fl5, p_isi_fl6, p_ix0, p_ix1, p_ix2, p_ix3, p_ix4, p_ix5, p_ix6, p_ix7, p_lenT, p_lt, p_le, p_gt, p_ge, p_eqI, p_neI, p_eqS, p_neS, p_add, p_sub, p_is_non, p_isnot_non, p_is_bl, p_isnot_bl, p_is_int, p_isnot_int, p_is_str, p_isnot_str, p_is_tup, p_isnot_tup, p_is_fl, p_isnot_fl, p_is_loc, p_isnot_loc, p_trB, p_trN, p_trT0, p_trT, p_tup0, p_lst0, p_tup1, p_lst1, p_tup2, p_lst2, p_tup3, p_lst3, p_tup4, p_lst4, p_tup5, p_lst5, p_tup6, p_lst6, p_tup7, p_lst7, p_tup8, p_lst8, p_int, p_abs, v0, wipeE, List.length_cons, List.length_nil, List.length_map, List.map_cons, List.map_nil, List.cons_append, List.nil_append, List.replicate, List.getElem?_cons_succ, List.getElem?_cons_zero, List.set_cons_zero, List.set_cons_succ, Nat.reduceAdd, Nat.reduceSub, Int.cast_ofNat_Int, Int.reduceEq, Int.reduceLE, Int.reduceLT, Int.reduceAdd, Int.reduceSub, Int.reduceNeg, Nat.reduceEqDiff, decide_true, decide_false, Bool.not_true, Bool.not_false, true_and, and_true, and_self, g_BOOK, g_FUNCTION, g_WORD, g_LINK, g_KINDS, g_VAL, g_NEXT, g_LEAST_WIDTH, g_MOST_WIDTH, g_MOST_DEPTH, g_MOST_ROOM, g_MOST_FUNCTIONS, g_MOST_PARAMS, g_MOST_NAMES, g_MOST_BOOK_ROWS, g_MOST_TERM_DEEP, g_MOST_TITLE, kw_row_ways_0, kw_called_by_0, kw_reached_rows_0, kw_frames_wanted_0, encR_test, encR_call, encR_go, encR_ret, encR_oth, encF, beqL_self]
  | ((with_reducible show Cd _ _ _); first | refine Cd_pos rfl ?_ | refine Cd_neg rfl ?_ | refine Cd_pos (decide_eq_true (by omega)) ?_ | refine Cd_neg (decide_eq_false (by omega)) ?_ | refine Cd_pos (by assumption) ?_ | refine Cd_neg (by assumption) ?_)
  | ((with_reducible show Op _ _); first | with_reducible refine Op_ixT (by assumption) ?_ | ((with_reducible show Op (ixM (.loc _) _ _) _); refine Op_ix (by walk_at "hget") (by assumption) ?_) | ((with_reducible show Op (getDM (.loc _) _ _) _); first | refine Op_getS (by walk_at "hget") rfl rfl ?_ | refine Op_getN (by walk_at "hget") rfl rfl ?_) | ((with_reducible show Op (inM (.str _) _ _) _); refine Op_inTup (xs := _) rfl rfl rfl rfl ?_) | ((with_reducible show Op (notinM (.str _) _ _) _); refine Op_notinTup (xs := _) rfl rfl rfl rfl ?_) | refine Op_mk rfl ?_)
  | ((with_reducible refine hN' _ _ ?_); clear hN') | (clear hN'; (with_reducible refine hN' _ _ ?_); clear hN') | (clear hN'; clear hN'; (with_reducible refine hN' _ _ ?_); clear hN') | ((with_reducible show Q _ _); first | exact q | refine q _ ?_ | refine q _ _ ?_ ?_ ?_ | refine q _ _ ?_ ?_)
  | ((with_reducible show Pre _ _); walk_at "pre") | ((with_reducible show ON _ _ _); refine ON_l (by walk_at "hget") ?_) | ((with_reducible show OM _ _); first | refine OM_l (by walk_at "hget") ?_ | refine OM_d (by walk_at "hget") ?_) | ((with_reducible show (_ = _ ∧ _ = _ ∧ _ = _) ∧ _); refine ⟨⟨rfl, rfl, rfl⟩, ?_⟩)
  | ((with_reducible show ∃ _, _ = _ ∧ _); refine ⟨_, rfl, ?_⟩))
local macro_rules | `(tactic| walk_at "ev") => `(tactic| repeat walk_at "ev1")
local macro_rules | `(tactic| walk_at "ev1") => `(tactic| ((with_reducible show Ok (rp _ _ _ _ _) _); first | with_reducible refine o_is_integer ?_ | with_reducible refine o_is_within (by omega) (by omega) ?_ | ((with_reducible show Ok (rp _ _ i_is_tuple _ _) _); refine o_is_tuple rfl ?_) | ((with_reducible show Ok (rp _ _ i_is_kind _ _) _); refine o_is_kind (by first | exact .inl rfl | exact .inr rfl) ?_) | ((with_reducible show Ok (rp _ _ i_is_worded_row _ _) _); refine o_worded rfl ?_) | ((with_reducible show Ok (rp _ _ i_is_named _ _) _); refine r_is_named rfl ?_; unfold d_is_named) | ((with_reducible show Ok (rp _ _ i_rows_of_function _ _) _); refine r_rows_of_function rfl ?_; unfold d_rows_of_function)))
variable {F k : Nat} {mh : MH} {Q : MV → MH → Prop} {d r f n : Nat} {fns : List (List Rw)} {rows : List Rw}
noncomputable def prF (fns : List (List Rw)) (f : Int) : List (Int × Int) := (reachOf fns f).map fun a => (f, a)
theorem flat_prs (l : List Int) : l.flatMap (rowsM fns) = (l.flatMap (prF fns)).map encPr := by
  rw [List.map_flatMap]
  congr 1
  funext f
  unfold rowsM prF
  rw [List.map_map]
  rfl
theorem reach_facts (B : BkOk d r fns) {x : Int} (hx : 0 ≤ x ∧ x < fns.length) : (reachOf fns x).length ≤ 12 ∧ ∀ a ∈ reachOf fns x, 0 ≤ a ∧ a < 12 := by
  obtain ⟨g, rfl⟩ := Int.eq_ofNat_of_zero_le hx.1
  have hgf : fns[g]? = some (fns[g]'(by omega)) := by simp [show g < fns.length from by omega]
  have H := B.fn _ (List.mem_of_getElem? hgf)
  rw [reachOf_eq hgf]
  have cl := clo_is H.inn
  have := H.le
  refine ⟨Nat.le_trans (clo_len H.inn cl) H.le, fun a ha => ?_⟩
  have := ((cl.mem a).mp ha).inn H.inn
  omega
theorem o_right {p : Nat} (hP : Pot mh p) (hF : 70 ≤ F) (q : ∀ h, Pot h p → Q (.bl true) h) : Ok (rp F (k + 11) i__law_right [.loc p] mh) Q := by
  refine r__law_right rfl ?_
  unfold d__law_right
  walk_at "ev"
  refine o_book (k := k + 6) hP hF ?_
  intro d r fns h B P p1
  obtain ⟨D, hD, sD⟩ := book_data B
  have hN := B.inn
  have h6 := B.f6
  have hle := encFs_len fns 0
  walk_at "ev"
  refine Op_repr (k := 10) (dp := 10) (w := 200000) rfl (hD _) (by decide) sD (by decide) (by decide) ?_
  obtain ⟨sh, hsh⟩ : ∃ sh : List Nat, shw D = .str sh := ⟨_, rfl⟩
  rw [hsh]
  walk_at "ev"
  have hPl := P.lt
  have L0 : Lst fns (h ++ [.lst []] ++ [.lst []]) p h.length (h ++ [MO.lst []]).length [] [] := by
    refine ⟨?_, hPl, by simp, get_old (get_new _ _), get_new _ _, fun j w e => by simp at e, fun j w e => by simp at e⟩
    obtain ⟨x, y, e, r⟩ := P.ex
    exact ⟨x, y, get_old (get_old e), r⟩
  generalize h ++ [MO.lst []] ++ [MO.lst []] = h1 at *
  generalize (h ++ [MO.lst []]).length = C at *
  generalize h.length = I at *
  refine o_is_book (k := k + 2) B (by omega) ?_
  intro h2 p2
  walk_at "ev"
  refine Ok_enum ?_
  walk_at "ev"
  refine ⟨_, encFs 0 fns, rfl, rfl, ?_⟩
  refine Os_forL (fun i e h => ∃ z2 z3 z7 z8 z9 z10 z11 z12 li lc, e = [some (.loc p), some (encB d r fns), z2, z3, some (.str sh), some (.loc I), some (.loc C), z7, z8, z9, z10, z11, z12] ∧ Lst fns h p I C li lc ∧ li.length = i ∧ lc.length = i) fns.length ?_ ?_ fns.length F 0 _ _ (by omega) (by omega) ⟨_, _, _, _, _, _, _, _, [], [], rfl, L0.mono p2, rfl, rfl⟩
  · rintro i e h hi ⟨z2, z3, z7, z8, z9, z10, z11, z12, li, lc, rfl, L, l1, l2⟩
    have hg : fns[i]? = some fns[i] := by simp
    generalize fns[i] = rows at hg
    refine ⟨.pr [.int i, encF i rows], by rw [nxtE_tup, fn_get hg], ?_⟩
    walk_at "ev"
    rw [← FbT_eq]
    refine fn_turnI B hg hF L l1 l2 ?_
    intro z7 z8 z9 z11 z12 h2 wi wc L2
    exact ⟨_, _, _, _, _, _, _, _, _, _, rfl, L2, by simp; omega, by simp; omega⟩
  · rintro e h ⟨z2, z3, z7, z8, z9, z10, z11, z12, li, lc, rfl, L, l1, l2⟩
    refine ⟨by rw [nxtE_tup, List.getElem?_eq_none (by omega), hle, Nat.beq_refl]; rfl, ?_⟩
    have T : Tbl h C (cg fns) fns.length lc := ⟨L.gc, l2, fun j w e => (L.ic j w e).2⟩
    have hcg : ∀ a : Int, 0 ≤ a → a < fns.length → (cg fns a).length ≤ 6 := fun a h1 h2 => by
      obtain ⟨g, rfl⟩ := Int.eq_ofNat_of_zero_le h1
      have hgf : fns[g]? = some (fns[g]'(by omega)) := by simp [show g < fns.length from by omega]
      rw [cg_eq hgf]
      exact Nat.le_trans (callsOf_len (B.fn _ (List.mem_of_getElem? hgf))) h6
    walk_at "ev"
    refine o_law_frames (k := k + 9) (T.mono (.app _)) hN h6 hcg hF ?_
    intro o h3 p3 ho
    walk_at "ev"
    refine o_closed (k := k + 9) ((T.mono (.app _)).mono p3) hN hcg (by omega) hF ?_
    intro w h4 p4 hw4 g4
    walk_at "ev"
    have cl := clo_is hN
    have hcl := clo_len hN cl
    have gD := p4.get (p3.get (get_new h (.lst [])))
    have hDl : h.length < h4.length := lt_of_get gD
    have hpl := L.pot.lt
    have L4 := L.mono (((Pre.app [.lst []]).trans p3).trans p4)
    have hwne : w ≠ h.length := by have := p3.le; simp at this; omega
    have hCl : C < h.length := lt_of_get L.gc
    have hil : ∀ (j v : Nat), li[j]? = some v → v < h.length := fun j v e => lt_of_get (L.ii j v e).2
    generalize h.length = Du at *
    refine Os_forX (xs := (clo (cg fns)).map .int) (fun t e h5 => ∃ z2, e = [some (.loc p), some (encB d r fns), z2, z3, some (.str sh), some (.loc I), some (.loc C), z7, z8, some (.loc Du), some (frM o), z11, z12] ∧ Pre1 Du h4 h5 ∧ h5[Du]? = some (.lst (((clo (cg fns)).take t).flatMap (rowsM fns)))) ?_ ?_ ?_ F (by simp; omega) ⟨_, rfl, .refl, gD⟩
    · rintro t e h5 ⟨z2, rfl, p5, g5⟩
      exact nxtL_at (p5.get g4 hwne) t
    · rintro t e h5 v hv ⟨z2, rfl, p5, g5⟩
      rw [List.getElem?_map] at hv
      obtain ⟨y, hy, rfl⟩ := Option.map_eq_some_iff.mp hv
      have hb := ((cl.mem y).mp (List.mem_of_getElem? hy)).inn hN
      obtain ⟨g, rfl⟩ := Int.eq_ofNat_of_zero_le hb.1
      have hgl : g < li.length := by omega
      have hlg : li[g]? = some li[g] := by simp
      have gI := p5.get L4.gi (by have := L.IC; omega)
      have gg := p5.get (L4.ii g _ hlg).2 (by have := hil g _ hlg; omega)
      have hcg2 : (li.map MV.loc)[g]? = some (.loc li[g]) := by simp
      have rf := reach_facts B hb
      walk_at "ev"
      unfold fb__law_right_1
      walk_at "ev"
      obtain ⟨m, e6, p6⟩ := lc_map (nxt := nxtL li[g]) (g := nameG 11) (te := ce__law_right_0) (rt := ⟨rp F (k + 10), F⟩) (env := [some (.loc p), some (encB d r fns), some (.int g), z3, some (.str sh), some (.loc I), some (.loc C), z7, z8, some (.loc Du), some (frM o), none, z12]) (mh := h5) (xs := (reachOf fns (g : Nat)).map .int) (F := F) (fun v => .tup [.int g, v])
        (by simp; omega) (by simp; omega) (fun h hp i => nxtL_at (hp.get gg) i) (fun x hx h hp => by
          refine ⟨_, rfl, ?_⟩
          unfold ce__law_right_0
          walk_at "ev"
          all_goals exact ⟨rfl, .refl⟩)
      refine ⟨_, _, e6, ?_⟩
      have hfl : (((clo (cg fns)).take t).flatMap (rowsM fns)).length ≤ ((clo (cg fns)).take t).length * 12 := flat_len fun x hx => by
        have hb := ((cl.mem x).mp (List.mem_of_mem_take hx)).inn hN
        unfold rowsM
        rw [List.length_map]
        exact (reach_facts B hb).1
      have htl : ((clo (cg fns)).take t).length ≤ 6 := by rw [List.length_take]; omega
      refine Op_extend (get_old (p6.get g5)) (get_new _ _) (by rw [List.length_map, List.length_map]; omega) ?_
      walk_at "ev"
      have ht : (clo (cg fns)).take (t + 1) = (clo (cg fns)).take t ++ [(g : Int)] := by
        rw [List.take_add_one, hy]; rfl
      refine ⟨((p5.trans p6.one).snoc _).put _, ?_⟩
      rw [ht, List.flatMap_append, List.flatMap_singleton, List.map_map]
      exact get_set (get_old (p6.get g5))
    · rintro e h5 ⟨z2, rfl, p5, g5⟩
      rw [List.length_map, List.take_length, flat_prs] at g5
      have hps : ∀ x ∈ (clo (cg fns)).flatMap (prF fns), x.1.natAbs < 1000 ∧ x.2.natAbs < 1000 := fun x hx => by
        obtain ⟨f, hf, hx⟩ := List.mem_flatMap.mp hx
        obtain ⟨a, ha, rfl⟩ := List.mem_map.mp hx
        have hb := ((cl.mem f).mp hf).inn hN
        have := (reach_facts B hb).2 a ha
        dsimp only
        omega
      have hpn : ((clo (cg fns)).flatMap (prF fns)).length ≤ 100 := by
        have : ((clo (cg fns)).flatMap (prF fns)).length ≤ (clo (cg fns)).length * 12 := flat_len fun x hx => by
          unfold prF
          rw [List.length_map]
          exact (reach_facts B (((cl.mem x).mp hx).inn hN)).1
        omega
      generalize hprs : (clo (cg fns)).flatMap (prF fns) = ps at *
      have hon : ∀ i, o = some i → i < 1000 := fun i hi => by
        rcases ho with ⟨j, rfl, hj, _⟩ | ⟨rfl, _⟩
        · cases hi; omega
        · cases hi
      have L5 : Pot h5 p := by
        obtain ⟨x, y, e, r⟩ := L4.pot.ex
        exact ⟨x, y, p5.get e (by omega), r⟩
      walk_at "ev"
      refine o_reached_rows (k := k + 1) B (by omega) ?_
      intro a h6' q6 ha6 ga6 _
      rw [flat_prs, hprs] at ga6
      walk_at "ev"
      refine o_reached_rows (k := k + 1) B (by omega) ?_
      intro b h7 q7 hb7 gb7 _
      rw [flat_prs, hprs] at gb7
      walk_at "ev"
      refine o_frames_wanted (k := k + 1) B (by omega) ?_
      intro o2 h8 q8 ho2
      obtain rfl := ho.uniq ho2
      walk_at "ev"
      refine o_frames_wanted (k := k + 1) B (by omega) ?_
      intro o3 h9 q9 ho3
      obtain rfl := ho.uniq ho3
      walk_at "ev"
      have gD9 := (q7.trans (q8.trans q9)).get (q6.get g5)
      have ga9 := (q7.trans (q8.trans q9)).get ga6
      refine repr_four (get_new _ _) (get_old ga9) (get_old ((q8.trans q9).get gb7)) hps hpn hon ?_
      walk_at "ev"
      refine repr_four (get_new _ _) (get_old (get_old gD9)) (get_old (get_old gD9)) hps hpn hon ?_
      walk_at "ev"
      refine Op_append (get_old (get_old ga9)) (by rw [List.length_map]; omega) ?_
      have hDu := lt_of_get g5
      have P9 : Pot h9 p := by
        obtain ⟨x, y, e, r⟩ := L5.ex
        exact ⟨x, y, (q6.trans (q7.trans (q8.trans q9))).get e, r⟩
      have hpa : p < a := by have := L5.lt; omega
      have gD10 := get_other (p := a) (x := .lst (ps.map encPr ++ [.non])) (get_old (x := .lst [.loc Du, .loc Du, frM o, frM o]) (get_old (x := .lst [.loc a, .loc b, frM o, frM o]) gD9)) (by omega)
      have P10 : Pot ((h9 ++ [MO.lst [MV.loc a, MV.loc b, frM o, frM o]] ++ [MO.lst [MV.loc Du, MV.loc Du, frM o, frM o]]).set a (MO.lst (ps.map encPr ++ [MV.non]))) p := by
        obtain ⟨x, y, e, r⟩ := P9.ex
        exact ⟨x, y, get_other (get_old (get_old e)) (by omega), r⟩
      generalize (h9 ++ [MO.lst [MV.loc a, MV.loc b, frM o, frM o]] ++ [MO.lst [MV.loc Du, MV.loc Du, frM o, frM o]]).set a (MO.lst (ps.map encPr ++ [MV.non])) = h10 at *
      walk_at "ev"
      refine o_reached_rows (k := k + 1) B (by omega) ?_
      intro c h11 q11 hc11 gc11 _
      rw [flat_prs, hprs] at gc11
      walk_at "ev"
      refine repr_prs gc11 hps hpn ?_
      walk_at "ev"
      refine repr_prs (q11.get gD10) hps hpn ?_
      walk_at "ev"
      refine Op_repr (k := 10) (dp := 10) (w := 200000) rfl (hD _) (by decide) sD (by decide) (by decide) ?_
      rw [hsh]
      walk_at "ev"
      obtain ⟨x, y, e, r⟩ := P10.ex
      exact ⟨x, y, q11.get e, r⟩
end K23
end L2
end
section
/-! K23Q: the law. -/
namespace L2
namespace K23
open PySem PySem.Spec PyProof.Rows L2.Vf
-- simp: encR_test
-- simp: encR_call
-- simp: encR_go
-- simp: encR_ret
-- simp: encR_oth
-- simp: encF
-- simp: beqL_self
set_option hygiene false
local macro_rules | `(tactic| walk_at "hget") => `(tactic| first | assumption | exact get_new _ _ | (refine get_old ?_; first | assumption | exact get_new _ _ | (refine get_old ?_; first | assumption | exact get_new _ _ | (refine get_old ?_; first | assumption | exact get_new _ _))))
local macro_rules | `(tactic| walk_at "pre") => `(tactic| first | assumption | exact Pre.refl | exact Pre.app _ | (refine Pre.snoc ?_ _; first | assumption | exact Pre.refl | exact Pre.app _ | (refine Pre.snoc ?_ _; first | assumption | exact Pre.refl | exact Pre.app _)))
local macro_rules | `(tactic| walk_at "ev1") => `(tactic| first
  | (with_reducible refine Os_seqC ?_; intro N' hN') | simp only [↓eqB_, ↓eqI_, ↓eqT_, ↓eqV_, ↓eqM_, ↓eqH_, ↓eqNt, ↓eqNf, ↓eqNs, ↓eqCt, ↓eqCf, ↓eqCn, ↓eqOp, ↓okE_ok, ↓okE_var, ↓okE_con, ↓okE_op1, ↓okE_op2, ↓okE_opN, ↓okE_nil, ↓okE_cons, ↓okE_if, ↓okE_andV, ↓okE_orV, ↓okE_notV, ↓okE_chain, ↓okE_bool, ↓okE_tru, ↓okE_and, ↓okE_or, ↓okE_not, ↓okE_ifB, ↓okE_yes, ↓okE_call, ↓okE_callK, ↓okE_meth, ↓okE_meth0, ↓okE_noPart, ↓okE_part, ↓okE_slice, ↓okE_any, ↓okE_rng1, ↓okE_lc, ↓okE_dnew, ↓okE_pnil, ↓okE_pcons, ↓osE_expr, ↓osE_set, ↓osE_ret, ↓osE_retN, ↓osE_pass, ↓osE_if, ↓osE_asg, ↓osE_sub, ↓okE_disp, ↓osE_name, ↓osE_nilG, ↓osE_consGn, ↓osE_tupT, ↓osE_tupP, ↓osE_par2, ↓osE_par3, ↓osE_for, ↓osE_while, p_isi_non1, p_isi_non2, p_isi_non3, p_isi_non4, p_isi_non5, p_isi_non6, p_isi_bl1, p_isi_bl2, p_isi_bl3, p_isi_bl4, p_isi_bl5, p_isi_bl6, p_isi_int1, p_isi_int2, p_isi_int3, p_isi_int4, p_isi_int5, p_isi_int6, p_isi_str1, p_isi_str2, p_isi_str3, p_isi_str4, p_isi_str5, p_isi_str6, p_isi_tup1, p_isi_tup2, p_isi_tup3, p_isi_tup4, p_isi_tup5, p_isi_tup6, p_isi_fl1, p_isi_fl2, p_isi_fl3, p_isi_fl4, p_isi_fl5, p_isi_fl6, p_ix0, p_ix1, p_ix2, p_ix3, p_ix4, p_ix5, p_ix6, p_ix7, p_lenT, p_lt, p_le, p_gt, p_ge, p_eqI, p_neI, p_eqS, p_neS, p_add, p_sub, p_is_non, p_isnot_non, p_is_bl, p_isnot_bl, p_is_int, p_isnot_int, p_is_str, p_isnot_str, p_is_tup, p_isnot_tup, p_is_fl, p_isnot_fl, p_is_loc, p_isnot_loc, p_trB, p_trN, p_trT0, p_trT, p_tup0, p_lst0, p_tup1, p_lst1, p_tup2, p_lst2, p_tup3, p_lst3, p_tup4, p_lst4, p_tup5, p_lst5, p_tup6, p_lst6, p_tup7, p_lst7, p_tup8, p_lst8, p_int, p_abs, v0, wipeE, List.length_cons, List.length_nil, List.length_map, List.map_cons, List.map_nil, List.cons_append, List.nil_append, List.replicate, List.getElem?_cons_succ, List.getElem?_cons_zero, List.set_cons_zero, List.set_cons_succ, Nat.reduceAdd, Nat.reduceSub, Int.cast_ofNat_Int, Int.reduceEq, Int.reduceLE, Int.reduceLT, Int.reduceAdd, Int.reduceSub, Int.reduceNeg, Nat.reduceEqDiff, decide_true, decide_false, Bool.not_true, Bool.not_false, true_and, and_true, and_self, g_BOOK, g_FUNCTION, g_WORD, g_LINK, g_KINDS, g_VAL, g_NEXT, g_LEAST_WIDTH, g_MOST_WIDTH, g_MOST_DEPTH, g_MOST_ROOM, g_MOST_FUNCTIONS, g_MOST_PARAMS, g_MOST_NAMES, g_MOST_BOOK_ROWS, g_MOST_TERM_DEEP, g_MOST_TITLE, kw_row_ways_0, kw_called_by_0, kw_reached_rows_0, kw_frames_wanted_0, encR_test, encR_call, encR_go, encR_ret, encR_oth, encF, beqL_self]
  | ((with_reducible show Cd _ _ _); first | refine Cd_pos rfl ?_ | refine Cd_neg rfl ?_ | refine Cd_pos (decide_eq_true (by omega)) ?_ | refine Cd_neg (decide_eq_false (by omega)) ?_ | refine Cd_pos (by assumption) ?_ | refine Cd_neg (by assumption) ?_)
  | ((with_reducible show Op _ _); first | with_reducible refine Op_ixT (by assumption) ?_ | ((with_reducible show Op (ixM (.loc _) _ _) _); refine Op_ix (by walk_at "hget") (by assumption) ?_) | ((with_reducible show Op (getDM (.loc _) _ _) _); first | refine Op_getS (by walk_at "hget") rfl rfl ?_ | refine Op_getN (by walk_at "hget") rfl rfl ?_) | ((with_reducible show Op (inM (.str _) _ _) _); refine Op_inTup (xs := _) rfl rfl rfl rfl ?_) | ((with_reducible show Op (notinM (.str _) _ _) _); refine Op_notinTup (xs := _) rfl rfl rfl rfl ?_) | refine Op_mk rfl ?_)
  | ((with_reducible refine hN' _ _ ?_); clear hN') | (clear hN'; (with_reducible refine hN' _ _ ?_); clear hN') | (clear hN'; clear hN'; (with_reducible refine hN' _ _ ?_); clear hN') | ((with_reducible show Q _ _); first | exact q | refine q _ ?_ | refine q _ _ ?_ ?_ ?_ | refine q _ _ ?_ ?_)
  | ((with_reducible show Pre _ _); walk_at "pre") | ((with_reducible show ON _ _ _); refine ON_l (by walk_at "hget") ?_) | ((with_reducible show OM _ _); first | refine OM_l (by walk_at "hget") ?_ | refine OM_d (by walk_at "hget") ?_) | ((with_reducible show (_ = _ ∧ _ = _ ∧ _ = _) ∧ _); refine ⟨⟨rfl, rfl, rfl⟩, ?_⟩)
  | ((with_reducible show ∃ _, _ = _ ∧ _); refine ⟨_, rfl, ?_⟩))
local macro_rules | `(tactic| walk_at "ev") => `(tactic| repeat walk_at "ev1")
local macro_rules | `(tactic| walk_at "ev1") => `(tactic| ((with_reducible show Ok (rp _ _ _ _ _) _); first | with_reducible refine o_is_integer ?_ | with_reducible refine o_is_within (by omega) (by omega) ?_ | ((with_reducible show Ok (rp _ _ i_is_tuple _ _) _); refine o_is_tuple rfl ?_) | ((with_reducible show Ok (rp _ _ i_is_kind _ _) _); refine o_is_kind (by first | exact .inl rfl | exact .inr rfl) ?_) | ((with_reducible show Ok (rp _ _ i_is_worded_row _ _) _); refine o_worded rfl ?_) | ((with_reducible show Ok (rp _ _ i_is_named _ _) _); refine r_is_named rfl ?_; unfold d_is_named) | ((with_reducible show Ok (rp _ _ i_rows_of_function _ _) _); refine r_rows_of_function rfl ?_; unfold d_rows_of_function)))
variable {F k : Nat} {mh : MH} {Q : MV → MH → Prop} {d r f n : Nat} {fns : List (List Rw)} {rows : List Rw}
theorem o_pot {ns : List Int} {i : Nat} (hi : i ≤ 2) (q : ∀ p h, Pot h p → Q (.loc p) h) : Ok (rp F (k + 1) i__law_pot [.fl (ns.map .int), .int i] mh) Q := by
  obtain ⟨m, p, e, P, _⟩ := pot_spec (F := F) (k := k) (mh := mh) (ns := ns) hi
  exact .of e (q p m P)
theorem allB_rep (n : Nat) : Vf.allB (List.replicate n (.bl true)) = some true := by
  induction n with
  | zero => rfl
  | succ n ih => rw [List.replicate_succ, Vf.allB, ih]; rfl
theorem many_ok (l : Nat) : ∃ n : Nat, n ≤ 2 ∧ (if (if (l : Int) < 2 then (l : Int) else 2) > 1 then (if (l : Int) < 2 then (l : Int) else 2) else 1) = (n : Int) := by
  by_cases c : l < 2
  · refine ⟨1, by decide, ?_⟩
    rw [if_pos (show (l : Int) < 2 by omega), if_neg (by omega)]; rfl
  · refine ⟨2, by decide, ?_⟩
    rw [if_neg (show ¬ (l : Int) < 2 by omega)]; rfl
theorem o_law {ns : List Int} (hF : 70 ≤ F) (q : ∀ h, Q (.bl true) h) : Ok (rp F (k + 12) i_law [.fl (ns.map .int)] mh) Q := by
  refine r_law rfl ?_
  unfold d_law
  obtain ⟨n, hn, hm⟩ := many_ok ns.length
  walk_at "ev"
  rw [hm]
  refine ⟨inR_nat (by omega), ?_⟩
  rw [Int.toNat_natCast]
  refine Os_forL (fun i e h => ∃ z1 z2, e = [some (.fl (ns.map .int)), z1, z2, none]) n ?_ ?_ n F 0 _ _ (by omega) (by omega) ⟨_, _, rfl⟩
  · rintro i e h hi ⟨z1, z2, rfl⟩
    refine ⟨.int (i : Nat), by rw [nxtR_at, if_pos hi, Int.zero_add], ?_⟩
    walk_at "ev"
    unfold fb_law_1
    walk_at "ev"
    refine o_pot (by omega) ?_
    intro p h2 P
    walk_at "ev"
    refine ⟨rfl, ?_⟩
    obtain ⟨xs, m, e3, P3, rfl⟩ := lc_run (nxt := nxtR 0 4) (g := nameG 3) (tt := yesD) (te := ce_law_0) (rt := ⟨rp F (k + 11), F⟩) (env := [some (.fl (ns.map .int)), some (.int i), some (.loc p), none])
      (fun t acc h => Pot h p ∧ acc = List.replicate t (.bl true)) 4 (by decide) (by
        rintro t acc h ht ⟨P3, rfl⟩
        refine ⟨.int (t : Nat), by rw [nxtR_at, if_pos ht, Int.zero_add], ?_⟩
        walk_at "ev"
        unfold ce_law_0
        walk_at "ev"
        refine o_right P3 hF ?_
        intro h4 P4
        exact ⟨P4, (List.replicate_succ' (n := t) (a := MV.bl true)).symm⟩) (by
        intro acc h _
        rw [nxtR_at, if_neg (by omega)]) 4 F 0 [] h2 (by omega) (by omega) ⟨P, rfl⟩
    refine ⟨_, _, e3, ?_⟩
    refine Op_all (b := true) (get_new _ _) (allB_rep 4) ?_
    walk_at "ev"
    all_goals exact ⟨_, _, rfl⟩
  · rintro e h ⟨z1, z2, rfl⟩
    refine ⟨by rw [nxtR_at, if_neg (by omega)], ?_⟩
    walk_at "ev"
    all_goals exact q _
theorem law_true : L2.K23.LawTrue := by
  intro ns _
  have h : Ok (rp fuel (18 + 12) i_law [.fl (ns.map .int)] []) fun v _ => v = .bl true := o_law (k := 18) (by decide) fun _ => rfl
  obtain ⟨v, m, e, rfl⟩ := h.ex
  exact ⟨m, e⟩
end K23
end L2
end
theorem PySem.Challenge.cw_lastremains_k23_whole_ways_calls_and_row_holds : PySem.Challenge.rw_lastremains_k23_whole_ways_calls_and_row.Holds := by
  exact L2.K23.holds_of L2.K23.law_true
