import PyProof.Rows.All
import Wide.All
import OpenK.AllK
import Wide.FinOn
import HandS.ForMost
import HandS.Exc
import HandS.ExcOwn
import HandS.WordsExc
import HandS.CallSlots
import HandS.Defaults
import HandS.TupAny
import HandS.TupMul
import HandS.Deep
import HandS.IsInst
import HandS.Text
import HandS.StrMore
import HandS.Style
import HandS.Flow
import HandS.HeadEnd
import HandS.Head0
import HandS.Head1
import HandS.Head2
import HandS.HeadHook1
import HandS.HeadHook2
import Lean
import PySem.Challenge.RW_lastremains_k11_whole_words_of_programs
set_option Elab.async false
set_option linter.all false
set_option maxRecDepth 100000
set_option maxHeartbeats 4000000
section
/-! VA: own values, own heap, their relation to the layer's. -/
namespace L2
namespace Vf
open PySem PySem.Spec PyProof.Rows

/-- own values: tuples are values, lists and dicts stand in the own heap; fl: a list that is only read -/
inductive MV where
  | non | bl (b : Bool) | int (i : Int) | str (cs : List Nat) | tup (xs : List MV) | loc (n : Nat) | fl (xs : List MV) | ty (n : Nat) | cls (i : Nat)
/-- what stands in the own heap -/
inductive MO where
  | lst (xs : List MV) | dct (kvs : List (MV × MV))
abbrev MH := List MO
/-- an exception: its class (by number), its fields -/
structure MX where
  c : Nat
  fs : List (Str × MV)
inductive Rs (α : Type) where
  | ok (a : α) (h : MH) | exc (e : MX) (h : MH) | stuck
abbrev Env' := List (Option MV)
structure Rt where
  call : Nat → List MV → MH → Rs MV
  fuel : Nat
abbrev DE := Rt → Env' → MH → Rs MV
abbrev DB := Rt → Env' → MH → Rs Bool
abbrev DL := Rt → Env' → MH → Rs (List MV)
/-- what a loop walks: at a turn, by the heap, the next item, or none -/
abbrev Nxt := Nat → MH → Option (Option MV)
abbrev DI := Rt → Env' → MH → Rs Nxt
inductive RsS where
  | nx (e : Env') (h : MH) | rt (v : MV) (h : MH) | bk (e : Env') (h : MH) | ct (e : Env') (h : MH) | exc (x : MX) (e : Env') (h : MH) | stuck
abbrev DS := Rt → Env' → MH → RsS
/-- a target: the value, then as a statement -/
abbrev DG := Rt → MV → Env' → MH → RsS

def S (cs : List Nat) : Str := ⟨cs.toArray⟩
theorem S_inj {a b : List Nat} (h : S a = S b) : a = b := by
  unfold S at h
  have := congrArg (fun x : Str => x.cps.toList) h
  simpa using this
theorem S_eta (x : Str) : S x.cps.toList = x := by cases x; simp [S]
theorem S_cps (a : List Nat) : (S a).cps.toList = a := by simp [S]
theorem S_len (a : List Nat) : (S a).length = a.length := by simp [S, Str.length]

/-- the built-in classes by numbers -/
def tyN : Nat → String
  | 0 => "NoneType" | 1 => "bool" | 2 => "int" | 3 => "str" | 4 => "list" | 5 => "tuple" | 6 => "dict" | _ => "set"
/-- the written part, and where the own classes stand -/
structure Tx where
  K : PySem.W.Frag
  ca : Nat → Addr
section
variable (K : Tx)
/-- a tuple that stands still: tracked and none of the own, or the module's -/
def Tp (ρ : List Addr) (H : Hp) (a : Addr) (vs : List V) : Prop :=
  (H a = some (.tup vs) ∧ a ∉ ρ) ∨
    ∃ (o : Obj) (its : Array Value) (n : Nat), K.K.lookup a = some o ∧ o.cls = .type "tuple" ∧ o.data = .seq its n ∧ its.size ≤ sizeLine ∧ Vals vs its.toList
/-- a list that is only read -/
def Fl (ρ : List Addr) (H : Hp) (a : Addr) (vs : List V) : Prop :=
  ((∃ o, H a = some (.frz o (.lst vs))) ∧ a ∉ ρ) ∨
    ∃ (o : Obj) (its : Array Value) (n : Nat), K.K.lookup a = some o ∧ o.cls = .type "list" ∧ o.dict = none ∧ o.data = .seq its n ∧ its.size ≤ sizeLine ∧ Vals vs its.toList
theorem Tp.sq {K : Tx} {ρ : List Addr} {H : Hp} {a : Addr} {vs : List V} (h : Tp K ρ H a vs) : SqT K.K H a vs := h.imp (fun x => .inl x.1) id
theorem Fl.sq {K : Tx} {ρ : List Addr} {H : Hp} {a : Addr} {vs : List V} (h : Fl K ρ H a vs) : SqL K.K H a vs := h.imp (fun x => .inr x.1) id
mutual
def RV (ρ : List Addr) (H : Hp) : MV → V → Prop
  | .non, v => v = .non
  | .bl b, v => v = .bl b
  | .int i, v => v = .int i
  | .str cs, v => v = .str (S cs)
  | .tup xs, v => ∃ a vs, v = .ref a ∧ Tp K ρ H a vs ∧ RVs ρ H xs vs
  | .loc n, v => ∃ a, v = .ref a ∧ ρ[n]? = some a
  | .fl xs, v => ∃ a vs, v = .ref a ∧ Fl K ρ H a vs ∧ RVs ρ H xs vs
  | .ty n, v => v = .ty (tyN n)
  | .cls i, v => v = .ref (K.ca i)
def RVs (ρ : List Addr) (H : Hp) : List MV → List V → Prop
  | [], vs => vs = []
  | x :: xs, vs => ∃ v r, vs = v :: r ∧ RV ρ H x v ∧ RVs ρ H xs r
end
/-- what stands behind: the new ones' addresses were free, all else is kept -/
structure Ext (ρ : List Addr) (H : Hp) (ρ' : List Addr) (H' : Hp) : Prop where
  pre : ∃ nw, ρ' = ρ ++ nw ∧ ∀ a ∈ nw, H a = none
  keep : ∀ a o, H a = some o → a ∉ ρ → H' a = some o
end
section
variable {K : Tx} {ρ ρ' ρ'' : List Addr} {H H' H'' : Hp}
theorem Ext.refl : Ext ρ H ρ H := ⟨⟨[], by simp, by simp⟩, fun _ _ h _ => h⟩
theorem Ext.out (e : Ext ρ H ρ' H') {a : Addr} {o : HO} (h : H a = some o) (n : a ∉ ρ) : a ∉ ρ' := by
  obtain ⟨nw, rfl, hn⟩ := e.pre
  intro m
  rcases List.mem_append.mp m with m | m
  · exact n m
  · rw [hn a m] at h; cases h
theorem Ext.trans (e : Ext ρ H ρ' H') (f : Ext ρ' H' ρ'' H'') (l : ∀ a ∈ ρ', H' a ≠ none) : Ext ρ H ρ'' H'' := by
  obtain ⟨nw, e1, hn⟩ := e.pre
  obtain ⟨nw', e2, hn'⟩ := f.pre
  refine ⟨⟨nw ++ nw', by rw [e2, e1, List.append_assoc], fun a m => ?_⟩, fun a o h n => f.keep a o (e.keep a o h n) (e.out h n)⟩
  rcases List.mem_append.mp m with m | m
  · exact hn a m
  · cases q : H a with
    | none => rfl
    | some o =>
      exfalso
      by_cases n : a ∈ ρ
      · exact l a (by rw [e1]; exact List.mem_append_left _ n) (hn' a m)
      · have := e.keep a o q n
        rw [hn' a m] at this; cases this
theorem Ext.sub (e : Ext ρ H ρ' H') {a : Addr} (m : a ∈ ρ) : a ∈ ρ' := by
  obtain ⟨nw, rfl, _⟩ := e.pre
  exact List.mem_append_left _ m
theorem Ext.get (e : Ext ρ H ρ' H') {n : Nat} {a : Addr} (m : ρ[n]? = some a) : ρ'[n]? = some a := by
  obtain ⟨nw, rfl, _⟩ := e.pre
  rw [List.getElem?_append_left (List.getElem?_eq_some_iff.mp m).1]; exact m
theorem Ext.rd (e : Ext ρ H ρ' H') {a : Addr} {u : HO} (h : Rd H a u) (n : a ∉ ρ) : Rd H' a u ∧ a ∉ ρ' := by
  rcases h with h | ⟨o, h⟩
  · exact ⟨.inl (e.keep _ _ h n), e.out h n⟩
  · exact ⟨.inr ⟨o, e.keep _ _ h n⟩, e.out h n⟩
/-- what never changes is kept -/
structure Ims (ρ : List Addr) (H : Hp) (ρ' : List Addr) (H' : Hp) : Prop where
  get : ∀ (n : Nat) (a : Addr), ρ[n]? = some a → ρ'[n]? = some a
  tup : ∀ a vs, H a = some (.tup vs) → a ∉ ρ → H' a = some (.tup vs) ∧ a ∉ ρ'
  frz : ∀ a o u, H a = some (.frz o u) → a ∉ ρ → H' a = some (.frz o u) ∧ a ∉ ρ'
theorem Ext.im (e : Ext ρ H ρ' H') : Ims ρ H ρ' H' := ⟨fun _ _ m => e.get m, fun _ _ h n => ⟨e.keep _ _ h n, e.out h n⟩, fun _ _ _ h n => ⟨e.keep _ _ h n, e.out h n⟩⟩
theorem Tp.im (e : Ims ρ H ρ' H') {a : Addr} {vs : List V} (h : Tp K ρ H a vs) : Tp K ρ' H' a vs :=
  h.imp (fun h => e.tup _ _ h.1 h.2) id
theorem Fl.im (e : Ims ρ H ρ' H') {a : Addr} {vs : List V} (h : Fl K ρ H a vs) : Fl K ρ' H' a vs :=
  h.imp (fun ⟨⟨o, h1⟩, h2⟩ => ⟨⟨o, (e.frz _ _ _ h1 h2).1⟩, (e.frz _ _ _ h1 h2).2⟩) id
mutual
theorem RV.im (e : Ims ρ H ρ' H') : ∀ {m : MV} {v : V}, RV K ρ H m v → RV K ρ' H' m v
  | .non, _, h => h
  | .bl _, _, h => h
  | .int _, _, h => h
  | .str _, _, h => h
  | .tup _, _, h => by
    unfold RV at h ⊢
    obtain ⟨a, vs, e1, h1, h2⟩ := h
    exact ⟨a, vs, e1, h1.im e, RVs.im e h2⟩
  | .loc _, _, h => by
    unfold RV at h ⊢
    obtain ⟨a, e1, h1⟩ := h
    exact ⟨a, e1, e.get _ _ h1⟩
  | .fl _, _, h => by
    unfold RV at h ⊢
    obtain ⟨a, vs, e1, h1, h2⟩ := h
    exact ⟨a, vs, e1, h1.im e, RVs.im e h2⟩
  | .ty _, _, h => h
  | .cls _, _, h => h
theorem RVs.im (e : Ims ρ H ρ' H') : ∀ {ms : List MV} {vs : List V}, RVs K ρ H ms vs → RVs K ρ' H' ms vs
  | [], _, h => h
  | _ :: _, _, h => by
    unfold RVs at h ⊢
    obtain ⟨v, r, e1, h1, h2⟩ := h
    exact ⟨v, r, e1, RV.im e h1, RVs.im e h2⟩
end
theorem RV.mono (e : Ext ρ H ρ' H') {m : MV} {v : V} (h : RV K ρ H m v) : RV K ρ' H' m v := h.im e.im
theorem RVs.mono (e : Ext ρ H ρ' H') {ms : List MV} {vs : List V} (h : RVs K ρ H ms vs) : RVs K ρ' H' ms vs := h.im e.im
theorem RVs.nil : RVs K ρ H [] [] := by unfold RVs; rfl
theorem RVs.cons {m : MV} {ms : List MV} {v : V} {vs : List V} (h : RV K ρ H m v) (t : RVs K ρ H ms vs) : RVs K ρ H (m :: ms) (v :: vs) := by
  unfold RVs; exact ⟨v, vs, rfl, h, t⟩
theorem RVs.len : ∀ {ms : List MV} {vs : List V}, RVs K ρ H ms vs → vs.length = ms.length
  | [], _, h => by unfold RVs at h; rw [h]; rfl
  | _ :: _, _, h => by
    unfold RVs at h
    obtain ⟨v, r, rfl, _, h2⟩ := h
    simp [RVs.len h2]
theorem RVs.get : ∀ {ms : List MV} {vs : List V} {i : Nat} {m : MV}, RVs K ρ H ms vs → ms[i]? = some m → ∃ v, vs[i]? = some v ∧ RV K ρ H m v
  | [], _, _, _, _, e => by simp at e
  | _ :: _, _, 0, _, h, e => by
    unfold RVs at h
    obtain ⟨v, r, rfl, h1, _⟩ := h
    simp at e; subst e
    exact ⟨v, rfl, h1⟩
  | _ :: _, _, i + 1, _, h, e => by
    unfold RVs at h
    obtain ⟨v, r, rfl, _, h2⟩ := h
    obtain ⟨u, e1, h3⟩ := RVs.get (i := i) h2 (by simpa using e)
    exact ⟨u, by simpa using e1, h3⟩
theorem RVs.append : ∀ {xs ys : List MV} {vs us : List V}, RVs K ρ H xs vs → RVs K ρ H ys us → RVs K ρ H (xs ++ ys) (vs ++ us)
  | [], _, _, _, h, t => by unfold RVs at h; subst h; exact t
  | _ :: _, _, _, _, h, t => by
    unfold RVs at h
    obtain ⟨v, r, rfl, h1, h2⟩ := h
    exact .cons h1 (RVs.append h2 t)
theorem RVs.take : ∀ {xs : List MV} {vs : List V} (n : Nat), RVs K ρ H xs vs → RVs K ρ H (xs.take n) (vs.take n)
  | _, _, 0, _ => by simp only [List.take_zero]; exact .nil
  | [], _, n + 1, h => by unfold RVs at h; subst h; exact .nil
  | _ :: _, _, n + 1, h => by
    unfold RVs at h
    obtain ⟨v, r, rfl, h1, h2⟩ := h
    exact .cons h1 (RVs.take n h2)
theorem RVs.drop : ∀ {xs : List MV} {vs : List V} (n : Nat), RVs K ρ H xs vs → RVs K ρ H (xs.drop n) (vs.drop n)
  | _, _, 0, h => h
  | [], _, n + 1, h => by unfold RVs at h; subst h; exact .nil
  | _ :: _, _, n + 1, h => by
    unfold RVs at h
    obtain ⟨v, r, rfl, h1, h2⟩ := h
    exact RVs.drop n h2
theorem RVs.set : ∀ {xs : List MV} {vs : List V} (n : Nat) {m : MV} {v : V}, RVs K ρ H xs vs → RV K ρ H m v → RVs K ρ H (xs.set n m) (vs.set n v)
  | [], _, n, _, _, h, _ => by unfold RVs at h; subst h; exact .nil
  | _ :: _, _, 0, _, _, h, t => by
    unfold RVs at h
    obtain ⟨v, r, rfl, h1, h2⟩ := h
    exact .cons t h2
  | _ :: _, _, n + 1, _, _, h, t => by
    unfold RVs at h
    obtain ⟨v, r, rfl, h1, h2⟩ := h
    exact .cons h1 (RVs.set n h2 t)
theorem RVs.ints : ∀ {ns : List Int}, RVs K ρ H (ns.map .int) (ns.map V.int)
  | [] => .nil
  | _ :: _ => .cons (by unfold RV; rfl) RVs.ints
theorem RVs.one {m : MV} {vs : List V} (h : RVs K ρ H [m] vs) : ∃ v, vs = [v] ∧ RV K ρ H m v := by
  unfold RVs at h
  obtain ⟨v, r, rfl, h1, h2⟩ := h
  unfold RVs at h2
  subst h2
  exact ⟨v, rfl, h1⟩
theorem RVs.two {m n : MV} {vs : List V} (h : RVs K ρ H [m, n] vs) : ∃ v u, vs = [v, u] ∧ RV K ρ H m v ∧ RV K ρ H n u := by
  unfold RVs at h
  obtain ⟨v, r, rfl, h1, h2⟩ := h
  obtain ⟨u, rfl, h3⟩ := h2.one
  exact ⟨v, u, rfl, h1, h3⟩

/-- own keys of dicts -/
def keyM : Key → MV
  | .inl i => .int i
  | .inr x => .str x.cps.toList
def RKs (K : Tx) (ρ : List Addr) (H : Hp) : List (MV × MV) → List (Key × V) → Prop
  | [], l => l = []
  | p :: ps, l => ∃ k v r, l = (k, v) :: r ∧ p.1 = keyM k ∧ RV K ρ H p.2 v ∧ RKs K ρ H ps r
theorem RKs.im (e : Ims ρ H ρ' H') : ∀ {ms : List (MV × MV)} {vs : List (Key × V)}, RKs K ρ H ms vs → RKs K ρ' H' ms vs
  | [], _, h => h
  | _ :: _, _, h => by
    unfold RKs at h ⊢
    obtain ⟨k, v, r, e1, e2, h1, h2⟩ := h
    exact ⟨k, v, r, e1, e2, h1.im e, RKs.im e h2⟩
def RO (K : Tx) (ρ : List Addr) (H : Hp) : MO → Option HO → Prop
  | .lst xs, o => ∃ vs, o = some (.lst vs) ∧ RVs K ρ H xs vs
  | .dct kvs, o => ∃ l, o = some (.dK l) ∧ RKs K ρ H kvs l
theorem RO.im (e : Ims ρ H ρ' H') {m : MO} {o : Option HO} (h : RO K ρ H m o) : RO K ρ' H' m o := by
  cases m with
  | lst xs =>
    obtain ⟨vs, e1, h⟩ := h
    exact ⟨vs, e1, h.im e⟩
  | dct kvs =>
    obtain ⟨l, e1, h⟩ := h
    exact ⟨l, e1, h.im e⟩
theorem RO.mono (e : Ext ρ H ρ' H') {m : MO} {o : Option HO} (h : RO K ρ H m o) : RO K ρ' H' m o := h.im e.im
theorem RO.some {m : MO} {o : Option HO} (h : RO K ρ H m o) : o ≠ none := by
  cases m with
  | lst xs => obtain ⟨vs, e1, h⟩ := h; rw [e1]; simp
  | dct kvs => obtain ⟨l, e1, h⟩ := h; rw [e1]; simp
/-- the own heap is borne -/
structure RH (K : Tx) (ρ : List Addr) (mh : MH) (H : Hp) : Prop where
  len : ρ.length = mh.length
  nd : ρ.Nodup
  ob : ∀ (n : Nat) (a : Addr) (o : MO), ρ[n]? = some a → mh[n]? = some o → RO K ρ H o (H a)
theorem RH.at (h : RH K ρ mh H) {n : Nat} {a : Addr} (e : ρ[n]? = some a) : ∃ o, mh[n]? = some o ∧ RO K ρ H o (H a) := by
  have hl := (List.getElem?_eq_some_iff.mp e).1
  rw [h.len] at hl
  exact ⟨mh[n], by simp [hl], h.ob n a _ e (by simp [hl])⟩
theorem RH.has (h : RH K ρ mh H) {n : Nat} {o : MO} (e : mh[n]? = some o) : ∃ a, ρ[n]? = some a ∧ RO K ρ H o (H a) := by
  have hl := (List.getElem?_eq_some_iff.mp e).1
  rw [← h.len] at hl
  exact ⟨ρ[n], by simp [hl], h.ob n _ o (by simp [hl]) e⟩
theorem RH.ne (h : RH K ρ mh H) : ∀ a ∈ ρ, H a ≠ none := fun a m => by
  obtain ⟨n, e⟩ := List.getElem?_of_mem m
  obtain ⟨o, _, r⟩ := h.at e
  exact r.some
theorem RH.out (h : RH K ρ mh H) {a : Addr} (e : H a = none) : a ∉ ρ := fun m => h.ne a m e
theorem RH.keep (h : RH K ρ mh H) (e : Ext ρ H ρ H') (k : ∀ a ∈ ρ, H' a = H a) : RH K ρ mh H' :=
  ⟨h.len, h.nd, fun n a o e1 e2 => by rw [k a (List.mem_of_getElem? e1)]; exact (h.ob n a o e1 e2).mono e⟩
/-- a new thing that is not ours -/
theorem Ext.new {p : Addr} {o : HO} (h : H p = none) (n : p ∉ ρ) : Ext ρ H ρ (upd H p o) :=
  ⟨⟨[], by simp, by simp⟩, fun a u e _ => by rw [upd_ne (ne_of_none e h)]; exact e⟩
theorem RH.new (h : RH K ρ mh H) {p : Addr} {o : HO} (hp : H p = none) : Ext ρ H ρ (upd H p o) ∧ RH K ρ mh (upd H p o) := by
  have e := Ext.new (o := o) hp (h.out hp)
  exact ⟨e, h.keep e fun a m => upd_ne (fun q : a = p => h.out hp (by rw [← q]; exact m))⟩
/-- a new thing of our own -/
theorem RH.push (h : RH K ρ mh H) {p : Addr} {ho : HO} {o : MO} (hp : H p = none) (r : RO K ρ H o (some ho)) :
    Ext ρ H (ρ ++ [p]) (upd H p ho) ∧ RH K (ρ ++ [p]) (mh ++ [o]) (upd H p ho) ∧ (ρ ++ [p])[mh.length]? = some p := by
  have e : Ext ρ H (ρ ++ [p]) (upd H p ho) := ⟨⟨[p], rfl, fun a m => by simp at m; rw [m]; exact hp⟩, fun a u q _ => by rw [upd_ne (ne_of_none q hp)]; exact q⟩
  have g : (ρ ++ [p])[mh.length]? = some p := by rw [← h.len]; simp
  refine ⟨e, ⟨by simp [h.len], ?_, fun n a u e1 e2 => ?_⟩, g⟩
  · rw [List.nodup_append]
    exact ⟨h.nd, by simp, fun a m b mb => by simp at mb; rw [mb]; exact fun q => h.out hp (by rw [← q]; exact m)⟩
  · by_cases hn : n < mh.length
    · rw [List.getElem?_append_left (by rw [h.len]; exact hn)] at e1
      rw [List.getElem?_append_left hn] at e2
      rw [upd_ne (fun q : a = p => h.out hp (by rw [← q]; exact List.mem_of_getElem? e1))]
      exact (h.ob n a u e1 e2).mono e
    · have hl := (List.getElem?_eq_some_iff.mp e2).1
      rw [List.length_append, List.length_singleton] at hl
      have hn : n = mh.length := by omega
      subst hn
      rw [g] at e1
      cases e1
      simp at e2
      subst e2
      rw [upd_same]
      exact r.mono e
/-- one of our own changes -/
theorem RH.put (h : RH K ρ mh H) {n : Nat} {a : Addr} {ho : HO} {o : MO} (e1 : ρ[n]? = some a) (r : RO K ρ H o (some ho)) :
    Ext ρ H ρ (upd H a ho) ∧ RH K ρ (mh.set n o) (upd H a ho) := by
  have ma := List.mem_of_getElem? e1
  have e : Ext ρ H ρ (upd H a ho) := ⟨⟨[], by simp, by simp⟩, fun b u q n => by rw [upd_ne fun z => n (by rw [z]; exact ma)]; exact q⟩
  refine ⟨e, ⟨by simp [h.len], h.nd, fun m b u q1 q2 => ?_⟩⟩
  by_cases hm : n = m
  · subst hm
    rw [e1] at q1; cases q1
    have hl : n < mh.length := by rw [← h.len]; exact (List.getElem?_eq_some_iff.mp e1).1
    rw [List.getElem?_set_self hl] at q2
    cases q2
    rw [upd_same]
    exact r.mono e
  · rw [List.getElem?_set_ne hm] at q2
    have hb : b ≠ a := fun z => by
      subst z
      obtain ⟨h1, e1'⟩ := List.getElem?_eq_some_iff.mp e1
      obtain ⟨h2, e2'⟩ := List.getElem?_eq_some_iff.mp q1
      exact hm ((List.getElem_inj h.nd).mp (e1'.trans e2'.symm))
    rw [upd_ne hb]
    exact (h.ob m b u q1 q2).mono e
/-- the slots -/
structure RSt (K : Tx) (ρ : List Addr) (H : Hp) (env : Env') (σ : St) : Prop where
  len : env.length = σ.length
  at_ : ∀ (i : Nat) (m : MV), env[i]? = some (some m) → ∃ v, σ[i]? = some (some v) ∧ RV K ρ H m v
theorem RSt.im {env : Env'} {σ : St} (e : Ims ρ H ρ' H') (h : RSt K ρ H env σ) : RSt K ρ' H' env σ :=
  ⟨h.len, fun i m q => let ⟨v, e1, r⟩ := h.at_ i m q; ⟨v, e1, r.im e⟩⟩
theorem RSt.mono {env : Env'} {σ : St} (e : Ext ρ H ρ' H') (h : RSt K ρ H env σ) : RSt K ρ' H' env σ := h.im e.im
/-- a list that is none of ours (a comprehension's own, while it grows) changes -/
theorem Ims.grow {D : Addr} {vs ws : List V} (h : H D = some (.lst vs)) : Ims ρ H ρ (upd H D (.lst ws)) :=
  ⟨fun _ _ m => m, fun a us r n => ⟨by rw [upd_ne (fun z : a = D => by rw [z, h] at r; cases r)]; exact r, n⟩, fun a o u r n => ⟨by rw [upd_ne (fun z : a = D => by rw [z, h] at r; cases r)]; exact r, n⟩⟩
theorem RH.grow {D : Addr} {vs ws : List V} (rh : RH K ρ mh H) (h : H D = some (.lst vs)) (n : D ∉ ρ) : RH K ρ mh (upd H D (.lst ws)) :=
  ⟨rh.len, rh.nd, fun i a o e1 e2 => by
    rw [upd_ne (fun z : a = D => n (by rw [← z]; exact List.mem_of_getElem? e1))]
    exact (rh.ob i a o e1 e2).im (Ims.grow h)⟩
theorem RSt.set {env : Env'} {σ : St} {m : MV} {v : V} (h : RSt K ρ H env σ) (i : Nat) (r : RV K ρ H m v) : RSt K ρ H (env.set i (some m)) (σ.set i (some v)) := by
  refine ⟨by simp [h.len], fun j n q => ?_⟩
  by_cases hj : i = j
  · subst hj
    have hl : i < (env.set i (some m)).length := (List.getElem?_eq_some_iff.mp q).1
    rw [List.length_set] at hl
    rw [List.getElem?_set_self hl] at q
    cases q
    exact ⟨v, by rw [List.getElem?_set_self (by rw [← h.len]; exact hl)], r⟩
  · rw [List.getElem?_set_ne hj] at q ⊢
    exact h.at_ j n q
end
end Vf
end L2
end
section
/-! VB: what is wanted of an own result; readings by own denotations. -/
namespace L2
open PySem PySem.Spec PyProof.Rows
/-! ### weakening of readings -/
theorem PE.imp {X : Cx} {e : Expr} {t t' : TE} (h : PE X e t) (i : ∀ σ H Q, t' σ H Q → t σ H Q) : PE X e t' := ⟨fun pins s σ H Q I q => h.run pins s σ H Q I (i σ H Q q)⟩
theorem PT.imp {X : Cx} {e : Expr} {t t' : TT} (h : PT X e t) (i : ∀ σ H Q, t' σ H Q → t σ H Q) : PT X e t' := ⟨fun pins s σ H Q I q => h.run pins s σ H Q I (i σ H Q q)⟩
theorem PW.imp {X : Cx} {e : Expr} {t t' : TT} (h : PW X e t) (i : ∀ σ H Q, t' σ H Q → t σ H Q) : PW X e t' := ⟨fun wh pins s σ H Q I q => h.run wh pins s σ H Q I (i σ H Q q)⟩
theorem PA.imp {X : Cx} {e : List Expr} {t t' : TA} (h : PA X e t) (i : ∀ σ H Q, t' σ H Q → t σ H Q) : PA X e t' := ⟨fun pos pins s σ H Q I q => h.run pos pins s σ H Q I (i σ H Q q)⟩
theorem PS.imp {X : Cx} {st : Stmt} {t t' : TS} (h : PS X st t) (i : ∀ D σ H, t' D σ H → t D σ H) : PS X st t' := ⟨fun pins s σ H D I q => h.run pins s σ H D I (i D σ H q)⟩
theorem PSs.imp {X : Cx} {st : List Stmt} {t t' : TS} (h : PSs X st t) (i : ∀ D σ H, t' D σ H → t D σ H) : PSs X st t' := ⟨fun pins s σ H D I q => h.run pins s σ H D I (i D σ H q)⟩
namespace Vf
open PySem PySem.Spec PyProof.Rows
section
variable (T : Tx)
def RFs (ρ : List Addr) (H : Hp) : List (Str × MV) → List (Str × V) → Prop
  | [], l => l = []
  | p :: ps, l => ∃ v r, l = (p.1, v) :: r ∧ RV T ρ H p.2 v ∧ RFs ρ H ps r
/-- an exception in the air -/
def RX (ρ : List Addr) (H : Hp) (e : MX) (cls : Value) (dd : Option Addr) : Prop :=
  cls = .ref (T.ca e.c) ∧ match dd with
    | none => e.fs = []
    | some d => ∃ l, H d = some (.xd l) ∧ RFs T ρ H e.fs l
/-- what is wanted of a result, seen from ρ, H -/
def Want {α β : Type} (rel : List Addr → Hp → α → β → Prop) (ρ : List Addr) (H : Hp) (W : XK) (r : Rs α) (Q : β → Hp → Prop) : Prop :=
  match r with
  | .ok a mh => ∀ b ρ' H', Ext ρ H ρ' H' → RH T ρ' mh H' → rel ρ' H' a b → Q b H'
  | .exc e mh => ∀ cls dd ρ' H', Ext ρ H ρ' H' → RH T ρ' mh H' → RX T ρ' H' e cls dd → W cls dd H'
  | .stuck => False
/-- a reading by a denotation -/
def Tof {α β : Type} (rel : List Addr → Hp → α → β → Prop) (W : WX) (rt : Rt) (d : Rt → Env' → MH → Rs α) (σ : St) (H : Hp) (Q : β → Hp → Prop) : Prop :=
  ∃ ρ env mh, RH T ρ mh H ∧ RSt T ρ H env σ ∧ Want T rel ρ H (fun c dd H' => W c dd σ H') (d rt env mh) Q
abbrev TEof (W : WX) (rt : Rt) (d : DE) : TE := Tof T (RV T) W rt d
abbrev TTof (W : WX) (rt : Rt) (d : DB) : TT := Tof T (fun _ _ a b => a = b) W rt d
abbrev TAof (W : WX) (rt : Rt) (d : DL) : TA := Tof T (RVs T) W rt d
end
/-- one behind another -/
def bnd {α γ : Type} (d : Rt → Env' → MH → Rs α) (f : α → Rt → Env' → MH → Rs γ) : Rt → Env' → MH → Rs γ := fun rt env mh =>
  match d rt env mh with
  | .ok a mh' => f a rt env mh'
  | .exc e mh' => .exc e mh'
  | .stuck => .stuck
section
variable {T : Tx} {α β γ δ : Type} {ρ ρ' : List Addr} {H H' : Hp} {W : XK} {rt : Rt}
theorem Want.from {rel : List Addr → Hp → α → β → Prop} {r : Rs α} {Q : β → Hp → Prop} (e : Ext ρ H ρ' H') (l : ∀ a ∈ ρ', H' a ≠ none) (w : Want T rel ρ H W r Q) : Want T rel ρ' H' W r Q := by
  cases r with
  | ok a mh => exact fun b ρ2 H2 e2 r2 q => w b ρ2 H2 (e.trans e2 l) r2 q
  | exc x mh => exact fun c d ρ2 H2 e2 r2 q => w c d ρ2 H2 (e.trans e2 l) r2 q
  | stuck => exact w
theorem Want.bind {rel : List Addr → Hp → α → β → Prop} {rel' : List Addr → Hp → γ → δ → Prop} {W : WX} {σ : St} {env : Env'} {mh : MH} {Q : δ → Hp → Prop} {d : Rt → Env' → MH → Rs α} {f : α → Rt → Env' → MH → Rs γ}
    (rh : RH T ρ mh H) (rs : RSt T ρ H env σ) (w : Want T rel' ρ H (fun c dd H' => W c dd σ H') (bnd d f rt env mh) Q) :
    Tof T rel W rt d σ H fun b H1 => ∃ ρ1 mh1 a, Ext ρ H ρ1 H1 ∧ RH T ρ1 mh1 H1 ∧ RSt T ρ1 H1 env σ ∧ rel ρ1 H1 a b ∧ Want T rel' ρ1 H1 (fun c dd H' => W c dd σ H') (f a rt env mh1) Q := by
  refine ⟨ρ, env, mh, rh, rs, ?_⟩
  unfold bnd at w
  cases e : d rt env mh with
  | ok a mh' =>
    rw [e] at w
    exact fun b ρ1 H1 e1 r1 q => ⟨ρ1, mh', a, e1, r1, rs.mono e1, q, w.from e1 r1.ne⟩
  | exc x mh' =>
    rw [e] at w
    exact w
  | stuck =>
    rw [e] at w
    exact w
/-- the end -/
theorem Want.done {rel : List Addr → Hp → α → β → Prop} {Q : β → Hp → Prop} {a : α} {mh : MH} {b : β} (w : Want T rel ρ H W (.ok a mh) Q) (e : Ext ρ H ρ' H') (rh : RH T ρ' mh H') (r : rel ρ' H' a b) : Q b H' := w b ρ' H' e rh r
end
/-! ### primitives -/
abbrev P1 := MV → MH → Option (MV × MH)
abbrev P2 := MV → MV → MH → Option (MV × MH)
abbrev PN := List MV → MH → Option (MV × MH)
def lft (r : Option (MV × MH)) : Rs MV := match r with
  | some (v, mh) => .ok v mh
  | none => .stuck
def op1D (p : P1) (d : DE) : DE := bnd d fun a _ _ mh => lft (p a mh)
def op2D (p : P2) (da db : DE) : DE := bnd da fun a => bnd db fun b _ _ mh => lft (p a b mh)
def opND (p : PN) (d : DL) : DE := bnd d fun as _ _ mh => lft (p as mh)
def nilD : DL := fun _ _ mh => .ok [] mh
def consD (d : DE) (t : DL) : DL := bnd d fun a => bnd t fun as _ _ mh => .ok (a :: as) mh
/-- the pure ones -/
def pu1 (f : MV → Option MV) : P1 := fun a mh => (f a).map fun v => (v, mh)
def pu2 (f : MV → MV → Option MV) : P2 := fun a b mh => (f a b).map fun v => (v, mh)
section
variable (T : Tx)
/-- what follows a primitive -/
def Aft (ρ : List Addr) (H : Hp) (m : MV) (mh : MH) (Q : VK) : Prop := ∀ v ρ' H', Ext ρ H ρ' H' → RH T ρ' mh H' → RV T ρ' H' m v → Q v H'
def R1of (p : P1) : V → Hp → VK → Prop := fun x H Q => ∃ ρ a mh m mh', RH T ρ mh H ∧ RV T ρ H a x ∧ p a mh = some (m, mh') ∧ Aft T ρ H m mh' Q
def R2of (p : P2) : R2 := fun x y H Q => ∃ ρ a b mh m mh', RH T ρ mh H ∧ RV T ρ H a x ∧ RV T ρ H b y ∧ p a b mh = some (m, mh') ∧ Aft T ρ H m mh' Q
def RNof (p : PN) : List V → Hp → VK → Prop := fun xs H Q => ∃ ρ as mh m mh', RH T ρ mh H ∧ RVs T ρ H as xs ∧ p as mh = some (m, mh') ∧ Aft T ρ H m mh' Q
end
section
variable {T : Tx} {X : Cx} {W : WX} {rt : Rt} {ρ : List Addr} {H : Hp} {Q : VK}
theorem lft_want {W : XK} {r : Option (MV × MH)} (w : Want T (RV T) ρ H W (lft r) Q) : ∃ m mh', r = some (m, mh') ∧ Aft T ρ H m mh' Q := by
  cases r with
  | none => exact w.elim
  | some p => exact ⟨p.1, p.2, rfl, fun v ρ' H' e r q => w v ρ' H' e r q⟩
theorem Aft.pure {m : MV} {mh : MH} {v : V} (k : Aft T ρ H m mh Q) (rh : RH T ρ mh H) (r : RV T ρ H m v) : Q v H := k v ρ H .refl rh r
theorem Tof.mono {α β : Type} {rel : List Addr → Hp → α → β → Prop} {d : Rt → Env' → MH → Rs α} {σ : St} {Q Q' : β → Hp → Prop} (h : Tof T rel W rt d σ H Q) (k : ∀ b H', Q b H' → Q' b H') : Tof T rel W rt d σ H Q' := by
  obtain ⟨ρ, env, mh, rh, rs, w⟩ := h
  refine ⟨ρ, env, mh, rh, rs, ?_⟩
  cases e : d rt env mh with
  | ok a mh' => rw [e] at w; exact fun b ρ1 H1 e1 r1 q => k _ _ (w b ρ1 H1 e1 r1 q)
  | exc x mh' => rw [e] at w; exact w
  | stuck => rw [e] at w; exact w
end
section
variable {T : Tx} {X : Cx} {W : WX} {rt : Rt} {a b : Expr} {es : List Expr} {pos : Pos} {da db : DE} {dl : DL}
theorem se_op2 {op : Operator} {p : P2} (ho : OpR X (binaryOp op) (R2of T p)) (ha : PE X a (TEof T W rt da)) (hb : PE X b (TEof T W rt db)) : PE X (.BinOp a op b pos) (TEof T W rt (op2D p da db)) :=
  (pe_op ho ha hb).imp fun σ H Q ⟨ρ, env, mh, rh, rs, w⟩ => (Want.bind rh rs w).mono fun x H1 ⟨ρ1, mh1, a, e1, rh1, rs1, ra, w1⟩ => (Want.bind rh1 rs1 w1).mono fun y H2 ⟨ρ2, mh2, b, e2, rh2, rs2, rb, w2⟩ => by
    obtain ⟨m, mh3, hp, k⟩ := lft_want w2
    exact ⟨ρ2, a, b, mh2, m, mh3, rh2, ra.mono e2, rb, hp, k⟩
theorem se_cmp {op : CmpOp} {p : P2} (ho : OpR X (compareOp op) (R2of T p)) (ha : PE X a (TEof T W rt da)) (hb : PE X b (TEof T W rt db)) (h1 : behindInMarks op b = false) : PE X (.Compare a [op] [b] pos) (TEof T W rt (op2D p da db)) :=
  (pe_cmpR ho ha hb h1).imp fun σ H Q ⟨ρ, env, mh, rh, rs, w⟩ => (Want.bind rh rs w).mono fun x H1 ⟨ρ1, mh1, a, e1, rh1, rs1, ra, w1⟩ => (Want.bind rh1 rs1 w1).mono fun y H2 ⟨ρ2, mh2, b, e2, rh2, rs2, rb, w2⟩ => by
    obtain ⟨m, mh3, hp, k⟩ := lft_want w2
    exact ⟨ρ2, a, b, mh2, m, mh3, rh2, ra.mono e2, rb, hp, k⟩
theorem se_un {op : UnaryOp} {p : P1} (ho : UnR X (unaryOp op) (R1of T p)) (ha : PE X a (TEof T W rt da)) : PE X (.UnaryOp op a pos) (TEof T W rt (op1D p da)) :=
  (pe_un ho ha).imp fun σ H Q ⟨ρ, env, mh, rh, rs, w⟩ => (Want.bind rh rs w).mono fun x H1 ⟨ρ1, mh1, a, e1, rh1, rs1, ra, w1⟩ => by
    obtain ⟨m, mh3, hp, k⟩ := lft_want w1
    exact ⟨ρ1, a, mh1, m, mh3, rh1, ra, hp, k⟩
theorem se_ix {p : P2} (ho : IxR X (R2of T p)) (ha : PE X a (TEof T W rt da)) (hb : PE X b (TEof T W rt db)) (hs : PlainIx b) : PE X (.Subscript a b pos) (TEof T W rt (op2D p da db)) :=
  (pe_ix ho ha hb hs).imp fun σ H Q ⟨ρ, env, mh, rh, rs, w⟩ => (Want.bind rh rs w).mono fun x H1 ⟨ρ1, mh1, a, e1, rh1, rs1, ra, w1⟩ => (Want.bind rh1 rs1 w1).mono fun y H2 ⟨ρ2, mh2, b, e2, rh2, rs2, rb, w2⟩ => by
    obtain ⟨m, mh3, hp, k⟩ := lft_want w2
    exact ⟨ρ2, a, b, mh2, m, mh3, rh2, ra.mono e2, rb, hp, k⟩
theorem sa_nil : PA X [] (TAof T W rt nilD) := pa_nil.imp fun σ H Q ⟨ρ, env, mh, rh, rs, w⟩ => w [] ρ H .refl rh .nil
theorem sa_cons {e : Expr} (ha : PE X e (TEof T W rt da)) (hr : PA X es (TAof T W rt dl)) (hs : starEach (e :: es) X.env = (false, eval e X.env) :: starEach es X.env) : PA X (e :: es) (TAof T W rt (consD da dl)) :=
  (pa_cons ha hr hs).imp fun σ H Q ⟨ρ, env, mh, rh, rs, w⟩ => (Want.bind rh rs w).mono fun x H1 ⟨ρ1, mh1, a, e1, rh1, rs1, ra, w1⟩ => (Want.bind (rel := RVs T) rh1 rs1 w1).mono fun y H2 ⟨ρ2, mh2, b, e2, rh2, rs2, rb, w2⟩ =>
    w2 _ ρ2 H2 .refl rh2 (.cons (ra.mono e2) rb)
end
end Vf
end L2
end
section
/-! VC: primitives. -/
namespace L2
namespace Vf
open PySem PySem.Spec PyProof.Rows
abbrev lim : Nat := 16777216
theorem lim_eq : lim = sizeLine := sizeLine_eq.symm
def beqL : List Nat → List Nat → Bool
  | [], [] => true
  | x :: xs, y :: ys => Nat.beq x y && beqL xs ys
  | _, _ => false
theorem beqL_eq : ∀ {a b : List Nat}, beqL a b = decide (a = b)
  | [], [] => rfl
  | [], _ :: _ => rfl
  | _ :: _, [] => rfl
  | x :: xs, y :: ys => by
    unfold beqL
    rw [beqL_eq (a := xs) (b := ys), Bool.eq_iff_iff]
    simp
def memL (c : Nat) : List Nat → Bool
  | [] => false
  | x :: xs => Nat.beq c x || memL c xs
theorem memL_eq {c : Nat} : ∀ {z : List Nat}, memL c z = decide (c ∈ z)
  | [] => by simp [memL]
  | x :: xs => by
    unfold memL
    rw [memL_eq (z := xs), Bool.eq_iff_iff]
    simp
theorem S_app (a b : List Nat) : S a ++ S b = S (a ++ b) := by
  show (⟨_⟩ : Str) = _
  unfold S
  simp
/-! ### data -/
def mapO {α β : Type} (f : α → Option β) : List α → Option (List β)
  | [] => some []
  | x :: xs => match f x with
    | none => none
    | some y => match mapO f xs with
      | none => none
      | some ys => some (y :: ys)
/-- a value as data, as it stands now -/
def fz (mh : MH) : Nat → MV → Option PyData
  | _, .non => some .none
  | _, .bl b => some (.bool b)
  | _, .int i => some (.int i)
  | _, .str cs => some (.str (S cs))
  | n + 1, .tup xs => match mapO (fz mh n) xs with
    | some ds => some (.tuple ds)
    | none => none
  | n + 1, .fl xs => match mapO (fz mh n) xs with
    | some ds => some (.list ds)
    | none => none
  | n + 1, .loc k => match mh[k]? with
    | some (.lst xs) => match mapO (fz mh n) xs with
      | some ds => some (.list ds)
      | none => none
    | _ => none
  | _, _ => none
section
variable {T : Tx} {ρ : List Addr} {H : Hp} {mh : MH}
theorem mapO_dp {n : Nat} (ih : ∀ {m : MV} {v : V} {d : PyData}, RV T ρ H m v → fz mh n m = some d → Dp T.K H v d) : ∀ {ms : List MV} {vs : List V} {ds : List PyData}, RVs T ρ H ms vs → mapO (fz mh n) ms = some ds → DpAll T.K H vs ds
  | [], vs, ds, h, e => by
    unfold RVs at h; subst h
    cases e
    exact .nil
  | x :: xs, vs, ds, h, e => by
    unfold RVs at h
    obtain ⟨v, r, rfl, h1, h2⟩ := h
    unfold mapO at e
    split at e
    · cases e
    · rename_i y ey
      split at e
      · cases e
      · rename_i ys eys
        cases e
        exact .cons (ih h1 ey) (mapO_dp ih h2 eys)
theorem fz_dp (rh : RH T ρ mh H) : ∀ {n : Nat} {m : MV} {v : V} {d : PyData}, RV T ρ H m v → fz mh n m = some d → Dp T.K H v d := by
  intro n
  induction n with
  | zero =>
    intro m v d h e
    cases m <;> unfold fz at e <;> first | cases e | skip
    all_goals (unfold RV at h; subst h; constructor)
  | succ n ih =>
    intro m v d h e
    cases m with
    | tup xs =>
      unfold fz at e
      split at e
      · rename_i ds eds
        cases e
        unfold RV at h
        obtain ⟨a, vs, rfl, h1, h2⟩ := h
        exact .tup h1.sq (mapO_dp ih h2 eds)
      · cases e
    | fl xs =>
      unfold fz at e
      split at e
      · rename_i ds eds
        cases e
        unfold RV at h
        obtain ⟨a, vs, rfl, h1, h2⟩ := h
        exact .lst h1.sq (mapO_dp ih h2 eds)
      · cases e
    | loc k =>
      unfold fz at e
      split at e
      · rename_i xs ek
        split at e
        · rename_i ds eds
          cases e
          unfold RV at h
          obtain ⟨a, rfl, h1⟩ := h
          obtain ⟨vs, e2, h2⟩ := rh.ob k a _ h1 ek
          exact .lst (SqL.of e2) (mapO_dp ih h2 eds)
        · cases e
      · cases e
    | non => unfold fz at e; cases e; unfold RV at h; subst h; constructor
    | bl b => unfold fz at e; cases e; unfold RV at h; subst h; constructor
    | int b => unfold fz at e; cases e; unfold RV at h; subst h; constructor
    | str b => unfold fz at e; cases e; unfold RV at h; subst h; constructor
    | ty b => unfold fz at e; cases e
    | cls b => unfold fz at e; cases e
end
/-! ### operators -/
def addM : P2
  | .int i, .int j, mh => some (.int (i + j), mh)
  | .str a, .str b, mh => if Nat.ble (a.length + b.length) lim then some (.str (a ++ b), mh) else none
  | .tup xs, .tup ys, mh => if Nat.ble (xs.length + ys.length) lim then some (.tup (xs ++ ys), mh) else none
  | .loc n, .loc m, mh => match mh[n]?, mh[m]? with
    | some (.lst xs), some (.lst ys) => if Nat.ble (xs.length + ys.length) lim then some (.loc mh.length, mh ++ [.lst (xs ++ ys)]) else none
    | _, _ => none
  | _, _, _ => none
def subM : P2
  | .int i, .int j, mh => some (.int (i - j), mh)
  | _, _, _ => none
def mulOk (i j : Int) : Bool := Nat.blt i.natAbs 18446744073709551616 || Nat.blt j.natAbs 18446744073709551616
def repL {α : Type} (xs : List α) (k : Nat) : List α := (List.replicate k xs).flatten
def mulM : P2
  | .int i, .int j, mh => if mulOk i j then some (.int (i * j), mh) else none
  | .str a, .int j, mh => if decide (1 ≤ j) && Nat.ble j.toNat 1000000 && Nat.ble (a.length * j.toNat) lim then some (.str (repL a j.toNat), mh) else none
  | .loc n, .int j, mh => match mh[n]? with
    | some (.lst xs) => if Nat.blt j.natAbs 9223372036854775808 && Nat.ble (xs.length * j.toNat) lim then some (.loc mh.length, mh ++ [.lst (repL xs j.toNat)]) else none
    | _ => none
  | _, _, _ => none
def fdivM : P2
  | .int i, .int j, mh => if decide (0 < j) && decide (j < 1073741824) then some (.int (i / j), mh) else none
  | _, _, _ => none
def modM : P2
  | .int i, .int j, mh => if decide (0 < j) then some (.int (i % j), mh) else none
  | _, _, _ => none
def powM : P2
  | .int i, .int j, mh => if decide (0 ≤ j) && decide (j ≤ 1000000) && Nat.blt i.natAbs 18446744073709551616 then some (.int (i ^ j.toNat), mh) else none
  | _, _, _ => none
def negM : P1
  | .int i, mh => some (.int (-i), mh)
  | _, _ => none
section
variable {T : Tx} {X : Cx}
theorem RV.int {ρ : List Addr} {H : Hp} {i : Int} : RV T ρ H (.int i) (.int i) := by unfold RV; rfl
theorem RV.bl {ρ : List Addr} {H : Hp} {i : Bool} : RV T ρ H (.bl i) (.bl i) := by unfold RV; rfl
theorem RV.non {ρ : List Addr} {H : Hp} : RV T ρ H .non .non := by unfold RV; rfl
theorem RV.str {ρ : List Addr} {H : Hp} {i : List Nat} : RV T ρ H (.str i) (.str (S i)) := by unfold RV; rfl
theorem Aft.tup {ρ : List Addr} {H : Hp} {Q : VK} {mh : MH} {ms : List MV} {vs : List V} {p : Addr} (k : Aft T ρ H (.tup ms) mh Q) (rh : RH T ρ mh H) (r : RVs T ρ H ms vs) (hp : H p = none) : Q (.ref p) (upd H p (.tup vs)) := by
  obtain ⟨e, rh'⟩ := rh.new (o := .tup vs) hp
  refine k _ ρ _ e rh' ?_
  unfold RV
  exact ⟨p, vs, rfl, .inl ⟨upd_same, rh.out hp⟩, r.mono e⟩
theorem Aft.lst {ρ : List Addr} {H : Hp} {Q : VK} {mh : MH} {ms : List MV} {vs : List V} {p : Addr} (k : Aft T ρ H (.loc mh.length) (mh ++ [.lst ms]) Q) (rh : RH T ρ mh H) (r : RVs T ρ H ms vs) (hp : H p = none) : Q (.ref p) (upd H p (.lst vs)) := by
  obtain ⟨e, rh', g⟩ := rh.push (ho := .lst vs) (o := .lst ms) hp ⟨vs, rfl, r⟩
  refine k _ _ _ e rh' ?_
  unfold RV
  exact ⟨p, rfl, g⟩
theorem loc_lst {ρ : List Addr} {H : Hp} {mh : MH} {n : Nat} {x : V} {xs : List MV} (rh : RH T ρ mh H) (r : RV T ρ H (.loc n) x) (e : mh[n]? = some (.lst xs)) : ∃ a vs, x = .ref a ∧ ρ[n]? = some a ∧ H a = some (.lst vs) ∧ RVs T ρ H xs vs := by
  unfold RV at r
  obtain ⟨a, rfl, h1⟩ := r
  obtain ⟨vs, e2, h2⟩ := rh.ob n a _ h1 e
  exact ⟨a, vs, rfl, h1, e2, h2⟩
theorem add_ok (hK : X.K = T.K) : OpR X (binaryOp .Add) (R2of T addM) := by
  intro pins s σ H x y v u Q I rx ry ⟨ρ, a, b, mh, m, mh', rh, ra, rb, hp, k⟩
  unfold addM at hp
  split at hp
  · cases hp; unfold RV at ra rb; subst ra rb
    exact op_add pins s σ H _ _ v u Q I rx ry ⟨_, _, rfl, rfl, k.pure rh .int⟩
  · split at hp
    · rename_i a b hz
      cases hp; unfold RV at ra rb; subst ra rb
      refine op_add_str pins s σ H _ _ v u Q I rx ry ⟨_, _, rfl, rfl, ?_, ?_⟩
      · rw [S_len, S_len, ← lim_eq]; exact Nat.le_of_ble_eq_true hz
      · rw [S_app]; exact k.pure rh .str
    · cases hp
  · split at hp
    · rename_i xs ys hz
      cases hp; unfold RV at ra rb
      obtain ⟨p, vs, rfl, t1, r1⟩ := ra
      obtain ⟨q, us, rfl, t2, r2⟩ := rb
      refine op_catA pins s σ H _ _ v u Q I rx ry ⟨p, q, vs, us, rfl, rfl, by rw [hK]; exact t1.sq, by rw [hK]; exact t2.sq, ?_, fun e => ?_, fun _ e => ?_, fun _ _ z hz => ?_⟩
      · rw [r1.len, r2.len, ← lim_eq]; exact Nat.le_of_ble_eq_true hz
      · subst e
        have e1 : xs = [] := List.eq_nil_of_length_eq_zero (by rw [← r1.len]; rfl)
        subst e1
        refine k.pure rh ?_
        unfold RV; exact ⟨q, us, rfl, t2, by simpa using r2⟩
      · subst e
        have e1 : ys = [] := List.eq_nil_of_length_eq_zero (by rw [← r2.len]; rfl)
        subst e1
        refine k.pure rh ?_
        unfold RV; exact ⟨p, vs, rfl, t1, by simpa using r1⟩
      · exact k.tup rh (r1.append r2) hz
    · cases hp
  · split at hp
    · split at hp
      · rename_i hz
        cases hp
        obtain ⟨p, vs, rfl, g1, h1, r1⟩ := loc_lst rh ra (by assumption)
        obtain ⟨q, us, rfl, g2, h2, r2⟩ := loc_lst rh rb (by assumption)
        refine op_cat pins s σ H _ _ v u Q I rx ry ⟨p, q, vs, us, rfl, rfl, h1, h2, ?_, fun z hz => k.lst rh (r1.append r2) hz⟩
        rw [r1.len, r2.len, ← lim_eq]; exact Nat.le_of_ble_eq_true hz
      · cases hp
    · cases hp
  · cases hp
theorem sub_ok : OpR X (binaryOp .Sub) (R2of T subM) := by
  intro pins s σ H x y v u Q I rx ry ⟨ρ, a, b, mh, m, mh', rh, ra, rb, hp, k⟩
  unfold subM at hp
  split at hp
  · cases hp; unfold RV at ra rb; subst ra rb
    exact op_sub pins s σ H _ _ v u Q I rx ry ⟨_, _, rfl, rfl, k.pure rh .int⟩
  · cases hp
theorem fdiv_ok : OpR X (binaryOp .FloorDiv) (R2of T fdivM) := by
  intro pins s σ H x y v u Q I rx ry ⟨ρ, a, b, mh, m, mh', rh, ra, rb, hp, k⟩
  unfold fdivM at hp
  split at hp
  · split at hp
    · rename_i hc
      cases hp; unfold RV at ra rb; subst ra rb
      have hc := Bool.and_eq_true_iff.mp hc
      exact op_fdiv pins s σ H _ _ v u Q I rx ry ⟨_, _, rfl, rfl, ⟨of_decide_eq_true hc.1, of_decide_eq_true hc.2⟩, k.pure rh .int⟩
    · cases hp
  · cases hp
theorem mod_ok : OpR X (binaryOp .Mod) (R2of T modM) := by
  intro pins s σ H x y v u Q I rx ry ⟨ρ, a, b, mh, m, mh', rh, ra, rb, hp, k⟩
  unfold modM at hp
  split at hp
  · split at hp
    · rename_i hc
      cases hp; unfold RV at ra rb; subst ra rb
      exact op_mod pins s σ H _ _ v u Q I rx ry ⟨_, _, rfl, rfl, of_decide_eq_true hc, k.pure rh .int⟩
    · cases hp
  · cases hp
theorem natAbs64 {i : Int} (h : Nat.blt i.natAbs 18446744073709551616 = true) : -(2 ^ 64) < i ∧ i < 2 ^ 64 := by
  have h : i.natAbs + 1 ≤ 18446744073709551616 := Nat.le_of_ble_eq_true h
  omega
theorem pow_ok : OpR X (binaryOp .Pow) (R2of T powM) := by
  intro pins s σ H x y v u Q I rx ry ⟨ρ, a, b, mh, m, mh', rh, ra, rb, hp, k⟩
  unfold powM at hp
  split at hp
  · split at hp
    · rename_i hc
      cases hp; unfold RV at ra rb; subst ra rb
      have hc := Bool.and_eq_true_iff.mp hc
      have hd := Bool.and_eq_true_iff.mp hc.1
      have h3 : _ + 1 ≤ 18446744073709551616 := Nat.le_of_ble_eq_true hc.2
      exact op_pow pins s σ H _ _ v u Q I rx ry ⟨_, _, rfl, rfl, ⟨of_decide_eq_true hd.1, of_decide_eq_true hd.2, by omega⟩, k.pure rh .int⟩
    · cases hp
  · cases hp
theorem neg_ok : UnR X (unaryOp .USub) (R1of T negM) := by
  intro pins s σ H x v Q I rx ⟨ρ, a, mh, m, mh', rh, ra, hp, k⟩
  unfold negM at hp
  split at hp
  · cases hp; unfold RV at ra; subst ra
    exact un_neg pins s σ H _ v Q I rx ⟨_, rfl, k.pure rh .int⟩
  · cases hp
theorem repL_len {α : Type} (xs : List α) (k : Nat) : (repL xs k).length = xs.length * k := by
  unfold repL
  induction k with
  | zero => simp
  | succ k ih => simp [List.replicate_succ, ih, Nat.mul_succ, Nat.add_comm]
theorem RVs.rep {ρ : List Addr} {H : Hp} {xs : List MV} {vs : List V} (h : RVs T ρ H xs vs) : ∀ k : Nat, RVs T ρ H (repL xs k) ((List.replicate k vs).flatten)
  | 0 => .nil
  | k + 1 => by
    unfold repL
    rw [List.replicate_succ, List.replicate_succ, List.flatten_cons, List.flatten_cons]
    exact h.append (RVs.rep h k)
theorem fold_rep (a : Array Nat) : ∀ (k : Nat) (acc : Array Nat), (List.replicate k a).foldl (· ++ ·) acc = ⟨acc.toList ++ repL a.toList k⟩
  | 0, acc => by simp [repL]
  | k + 1, acc => by
    rw [List.replicate_succ, List.foldl_cons, fold_rep a k]
    unfold repL
    rw [List.replicate_succ, List.flatten_cons]
    simp
theorem mul_ok : OpR X (binaryOp .Mult) (R2of T mulM) := by
  intro pins s σ H x y v u Q I rx ry ⟨ρ, a, b, mh, m, mh', rh, ra, rb, hp, k⟩
  unfold mulM at hp
  split at hp
  · split at hp
    · rename_i hc
      cases hp; unfold RV at ra rb; subst ra rb
      exact op_mul pins s σ H _ _ v u Q I rx ry ⟨_, _, rfl, rfl, (Bool.or_eq_true_iff.mp hc).imp natAbs64 natAbs64, k.pure rh .int⟩
    · cases hp
  · split at hp
    · rename_i a j hc
      cases hp; unfold RV at ra rb; subst ra rb
      have hc := Bool.and_eq_true_iff.mp hc
      have hd := Bool.and_eq_true_iff.mp hc.1
      have h1 : 1 ≤ j := of_decide_eq_true hd.1
      have h2 := Nat.le_of_ble_eq_true hd.2
      have h3 := Nat.le_of_ble_eq_true hc.2
      obtain ⟨t, rfl⟩ := rx
      obtain ⟨t', rfl⟩ := ry
      have hn : ¬ j < 1 := by omega
      refine PySem.P.mul_str ?_ (fun _ _ => ?_) (fun _ _ => ?_) ?_
      · have e1 : ¬ j < -(2 ^ 63 : Int) := by omega
        have e2 : ¬ j ≥ 2 ^ 63 := by omega
        rw [decide_eq_false e1, decide_eq_false e2]; rfl
      · rw [S_len]
        have h4 : a.length * j.toNat ≤ 16777216 := h3
        have h5 : (a.length : Int) * j ≤ 16777216 := by
          have e5 : (j.toNat : Int) = j := Int.toNat_of_nonneg (by omega)
          rw [← e5]
          have h6 : ((a.length * j.toNat : Nat) : Int) ≤ ((16777216 : Nat) : Int) := Int.ofNat_le.mpr h4
          rw [Int.natCast_mul] at h6
          exact h6
        intro hgt
        have h6 : (2 ^ 63 - 1) / j + 1 ≤ (a.length : Int) := by omega
        have h7 : j * ((2 ^ 63 - 1) / j) + (2 ^ 63 - 1) % j = 2 ^ 63 - 1 := Int.mul_ediv_add_emod _ _
        have h8 := Int.emod_lt_of_pos (2 ^ 63 - 1) (show 0 < j by omega)
        have h9 : ((2 ^ 63 - 1) / j + 1) * j ≤ (a.length : Int) * j := Int.mul_le_mul_of_nonneg_right h6 (by omega)
        rw [Int.add_mul, Int.one_mul, Int.mul_comm] at h9
        omega
      · have : ¬ (S a).length * j.toNat > sizeLine := by rw [S_len, ← lim_eq]; exact Nat.not_lt.mpr h3
        unfold Builtin.Str.tooLong
        first
          | exact decide_eq_false this
          | simpa using this
      · rw [if_neg hn]
        have kk := k.pure rh (RV.str (T := T) (ρ := ρ) (H := H) (i := repL a j.toNat))
        split
        · rename_i he
          rcases Bool.or_eq_true_iff.mp he with e | e
          · have e : j = 1 := by simpa using e
            subst e
            have e2 : repL a (1 : Int).toNat = a := List.append_nil a
            rw [e2] at kk
            exact ⟨.str (S a), H, I, ⟨t, rfl⟩, kk⟩
          · have e : a = [] := by
              have : (S a).length = 0 := by simpa using e
              rw [S_len] at this
              exact List.eq_nil_of_length_eq_zero this
            subst e
            have e2 : repL ([] : List Nat) j.toNat = [] := List.eq_nil_of_length_eq_zero (by rw [repL_len]; simp)
            rw [e2] at kk
            exact ⟨.str (S []), H, I, ⟨t, rfl⟩, kk⟩
        · have e3 : (⟨(List.replicate j.toNat (S a).cps).foldl (· ++ ·) #[]⟩ : Str) = S (repL a j.toNat) := by
            rw [fold_rep]
            simp [S]
          refine ⟨?_, .str (S (repL a j.toNat)), H, I.tok _, ⟨s.toks, by rw [e3]⟩, kk⟩
          rw [e3, S_len, repL_len, ← lim_eq]
          exact h3
    · cases hp
  · split at hp
    · split at hp
      · rename_i hc
        cases hp
        have hc := Bool.and_eq_true_iff.mp hc
        have h1 : _ + 1 ≤ 9223372036854775808 := Nat.le_of_ble_eq_true hc.1
        obtain ⟨p, vs, rfl, g1, hh1, r1⟩ := loc_lst rh ra (by assumption)
        unfold RV at rb; subst rb
        refine op_rep pins s σ H _ _ v u Q I rx ry ⟨p, _, vs, rfl, rfl, hh1, by omega, by omega, ?_, ?_⟩
        · rw [r1.len, ← lim_eq]; exact Nat.le_of_ble_eq_true hc.2
        · intro z hz
          exact k.lst rh (r1.rep _) hz
      · cases hp
    · cases hp
  · cases hp
end
end Vf
end L2
end
section
/-! VD: comparisons, places, slices, kinds. -/
namespace L2
namespace Vf
open PySem PySem.Spec PyProof.Rows
def ltM : P2
  | .int i, .int j, mh => some (.bl (decide (i < j)), mh)
  | _, _, _ => none
def leM : P2
  | .int i, .int j, mh => some (.bl (decide (i ≤ j)), mh)
  | _, _, _ => none
def gtM : P2
  | .int i, .int j, mh => some (.bl (decide (j < i)), mh)
  | _, _, _ => none
def geM : P2
  | .int i, .int j, mh => some (.bl (decide (j ≤ i)), mh)
  | _, _, _ => none
/-- == by data -/
def eqG (mh : MH) (a b : MV) : Option Bool := match fz mh 60 a, fz mh 60 b with
  | some d, some e => if SeqAt.shaped d && SeqAt.shaped e then some (PyData.eqv d e) else none
  | _, _ => none
def eqB (mh : MH) : MV → MV → Option Bool
  | .int i, .int j => some (decide (i = j))
  | .str a, .str b => some (beqL a b)
  | a, b => eqG mh a b
def eqM : P2 := fun a b mh => match eqB mh a b with
  | some r => some (.bl r, mh)
  | none => none
def neM : P2 := fun a b mh => match eqB mh a b with
  | some r => some (.bl (!r), mh)
  | none => none
def inG (mh : MH) (a b : MV) : Option Bool := match fz mh 60 a, fz mh 60 b with
  | some d, some (.list ds) => if SeqAt.shaped d && SeqAt.shaped (.list ds) then some (ds.any fun z => PyData.eqv z d) else none
  | some d, some (.tuple ds) => if SeqAt.shaped d && SeqAt.shaped (.list ds) then some (ds.any fun z => PyData.eqv z d) else none
  | _, _ => none
def inB (mh : MH) : MV → MV → Option Bool
  | .str [c], .str z => some (memL c z)
  | a, b => inG mh a b
def inM : P2 := fun a b mh => match inB mh a b with
  | some r => some (.bl r, mh)
  | none => none
def notinM : P2 := fun a b mh => match inB mh a b with
  | some r => some (.bl (!r), mh)
  | none => none
def isNonB : MV → Bool
  | .non => true
  | _ => false
def isM : P2
  | a, .non, mh => some (.bl (isNonB a), mh)
  | _, _, _ => none
def isnotM : P2
  | a, .non, mh => some (.bl (!isNonB a), mh)
  | _, _, _ => none
section
variable {T : Tx} {X : Cx}
theorem cmpI {op : CmpOp} {g : Int → Int → Bool} {p : P2} (hr : OpR X (compareOp op) (rI0 fun i j => .bl (g i j))) (h : ∀ a b mh m mh', p a b mh = some (m, mh') → ∃ i j, a = .int i ∧ b = .int j ∧ m = .bl (g i j) ∧ mh' = mh) : OpR X (compareOp op) (R2of T p) := by
  intro pins s σ H x y v u Q I rx ry ⟨ρ, a, b, mh, m, mh', rh, ra, rb, hp, k⟩
  obtain ⟨i, j, rfl, rfl, rfl, rfl⟩ := h _ _ _ _ _ hp
  unfold RV at ra rb; subst ra rb
  exact hr pins s σ H _ _ v u Q I rx ry ⟨_, _, rfl, rfl, k.pure rh .bl⟩
theorem lt_ok : OpR X (compareOp .Lt) (R2of T ltM) := cmpI op_lt fun a b mh m mh' h => by unfold ltM at h; split at h <;> cases h; exact ⟨_, _, rfl, rfl, rfl, rfl⟩
theorem le_ok : OpR X (compareOp .LtE) (R2of T leM) := cmpI op_le fun a b mh m mh' h => by unfold leM at h; split at h <;> cases h; exact ⟨_, _, rfl, rfl, rfl, rfl⟩
theorem gt_ok : OpR X (compareOp .Gt) (R2of T gtM) := cmpI op_gt fun a b mh m mh' h => by unfold gtM at h; split at h <;> cases h; exact ⟨_, _, rfl, rfl, rfl, rfl⟩
theorem ge_ok : OpR X (compareOp .GtE) (R2of T geM) := cmpI op_ge fun a b mh m mh' h => by unfold geM at h; split at h <;> cases h; exact ⟨_, _, rfl, rfl, rfl, rfl⟩
theorem V_str_eq {a b : List Nat} : decide (V.str (S a) = V.str (S b)) = beqL a b := by
  rw [beqL_eq, Bool.eq_iff_iff, decide_eq_true_iff, decide_eq_true_iff]
  exact ⟨fun h => S_inj (V.str.inj h), fun h => by rw [h]⟩
/-- equality, both ways -/
theorem eq_core {op : CmpOp} {n : Bool → Bool} (h1 : OpR X (compareOp op) (fun x y H Q => scal x y = true ∧ Q (.bl (n (decide (x = y)))) H))
    (h2 : OpR X (compareOp op) (fun x y H Q => ∃ d e, Dp X.K H x d ∧ Dp X.K H y e ∧ SeqAt.shaped d = true ∧ SeqAt.shaped e = true ∧ Q (.bl (n (PyData.eqv d e))) H)) (hK : X.K = T.K) :
    OpR X (compareOp op) (R2of T fun a b mh => match eqB mh a b with
      | some r => some (.bl (n r), mh)
      | none => none) := by
  intro pins s σ H x y v u Q I rx ry ⟨ρ, a, b, mh, m, mh', rh, ra, rb, hp, k⟩
  dsimp only at hp
  split at hp
  · rename_i r er
    cases hp
    unfold eqB at er
    split at er
    · rename_i i j
      cases er; unfold RV at ra rb; subst ra rb
      refine h1 pins s σ H _ _ v u Q I rx ry ⟨rfl, ?_⟩
      have e : decide (V.int i = V.int j) = decide (i = j) := by simp
      rw [e]
      exact k.pure rh .bl
    · cases er; unfold RV at ra rb; subst ra rb
      refine h1 pins s σ H _ _ v u Q I rx ry ⟨rfl, ?_⟩
      rw [V_str_eq]
      exact k.pure rh .bl
    · unfold eqG at er
      split at er
      · split at er
        · rename_i d e ed ee hs
          cases er
          have hs := Bool.and_eq_true_iff.mp hs
          exact h2 pins s σ H _ _ v u Q I rx ry ⟨d, e, by rw [hK]; exact fz_dp rh ra ed, by rw [hK]; exact fz_dp rh rb ee, hs.1, hs.2, k.pure rh .bl⟩
        · cases er
      · cases er
  · cases hp
theorem eq_ok (hK : X.K = T.K) (hu : X.A.units + 64 < cLine) : OpR X (compareOp .Eq) (R2of T eqM) := eq_core (n := id) op_eq (op_eqD hu) hK
theorem ne_ok (hK : X.K = T.K) (hu : X.A.units + 64 < cLine) : OpR X (compareOp .NotEq) (R2of T neM) := eq_core (n := not) op_ne (op_neD hu) hK
theorem in_core {op : CmpOp} {n : Bool → Bool} (h1 : OpR X (compareOp op) (fun x y H Q => ∃ (c : Nat) (z : Str), x = .str ⟨#[c]⟩ ∧ y = .str z ∧ Q (.bl (n (decide (c ∈ z.cps.toList)))) H))
    (h2 : OpR X (compareOp op) (fun x y H Q => ∃ d ds, Dp X.K H x d ∧ (Dp X.K H y (.list ds) ∨ Dp X.K H y (.tuple ds)) ∧ SeqAt.shaped d = true ∧ SeqAt.shaped (.list ds) = true ∧ Q (.bl (n (ds.any fun z => PyData.eqv z d))) H)) (hK : X.K = T.K) :
    OpR X (compareOp op) (R2of T fun a b mh => match inB mh a b with
      | some r => some (.bl (n r), mh)
      | none => none) := by
  intro pins s σ H x y v u Q I rx ry ⟨ρ, a, b, mh, m, mh', rh, ra, rb, hp, k⟩
  dsimp only at hp
  split at hp
  · rename_i r er
    cases hp
    unfold inB at er
    split at er
    · rename_i c z
      cases er; unfold RV at ra rb; subst ra rb
      refine h1 pins s σ H _ _ v u Q I rx ry ⟨c, S z, rfl, rfl, ?_⟩
      rw [S_cps, ← memL_eq]
      exact k.pure rh .bl
    · unfold inG at er
      split at er
      · split at er
        · rename_i d ds ed ee hs
          cases er
          have hs := Bool.and_eq_true_iff.mp hs
          exact h2 pins s σ H _ _ v u Q I rx ry ⟨d, ds, by rw [hK]; exact fz_dp rh ra ed, .inl (by rw [hK]; exact fz_dp rh rb ee), hs.1, hs.2, k.pure rh .bl⟩
        · cases er
      · split at er
        · rename_i d ds ed ee hs
          cases er
          have hs := Bool.and_eq_true_iff.mp hs
          exact h2 pins s σ H _ _ v u Q I rx ry ⟨d, ds, by rw [hK]; exact fz_dp rh ra ed, .inr (by rw [hK]; exact fz_dp rh rb ee), hs.1, hs.2, k.pure rh .bl⟩
        · cases er
      · cases er
  · cases hp
theorem op_inDT (hu : X.A.units + 65 < cLine) : OpR X (compareOp .In) (fun x y H Q => ∃ d ds, Dp X.K H x d ∧ (Dp X.K H y (.list ds) ∨ Dp X.K H y (.tuple ds)) ∧ SeqAt.shaped d = true ∧ SeqAt.shaped (.list ds) = true ∧ Q (.bl (id (ds.any fun z => PyData.eqv z d))) H) := by
  intro pins s σ H x y v u Q I rx ry h
  obtain ⟨d, ds, hd, he, sd, se, q⟩ := h
  obtain ⟨as, r1⟩ := Dp.reads I d x v hd rx
  rcases he with he | he
  · obtain ⟨bs, r2⟩ := Dp.reads I (.list ds) y u he ry
    exact SeqAt.in_list_reads r2 r1 (SeqAt.canLay_of_shaped se) (SeqAt.canLay_of_shaped sd) (room_in_shaped sd hu) ⟨.bl _, H, I, rfl, q⟩
  · obtain ⟨bs, r2⟩ := Dp.reads I (.tuple ds) y u he ry
    exact SeqAt.in_tuple_reads r2 r1 (SeqAt.canLay_of_shaped se) (SeqAt.canLay_of_shaped sd) (room_in_shaped sd hu) ⟨.bl _, H, I, rfl, q⟩
theorem op_notinDT (hu : X.A.units + 65 < cLine) : OpR X (compareOp .NotIn) (fun x y H Q => ∃ d ds, Dp X.K H x d ∧ (Dp X.K H y (.list ds) ∨ Dp X.K H y (.tuple ds)) ∧ SeqAt.shaped d = true ∧ SeqAt.shaped (.list ds) = true ∧ Q (.bl (!(ds.any fun z => PyData.eqv z d))) H) := by
  intro pins s σ H x y v u Q I rx ry h
  obtain ⟨d, ds, hd, he, sd, se, q⟩ := h
  obtain ⟨as, r1⟩ := Dp.reads I d x v hd rx
  rcases he with he | he
  · obtain ⟨bs, r2⟩ := Dp.reads I (.list ds) y u he ry
    exact SeqAt.notIn_list_reads r2 r1 (SeqAt.canLay_of_shaped se) (SeqAt.canLay_of_shaped sd) (room_in_shaped sd hu) ⟨.bl _, H, I, rfl, q⟩
  · obtain ⟨bs, r2⟩ := Dp.reads I (.tuple ds) y u he ry
    exact SeqAt.notIn_tuple_reads r2 r1 (SeqAt.canLay_of_shaped se) (SeqAt.canLay_of_shaped sd) (room_in_shaped sd hu) ⟨.bl _, H, I, rfl, q⟩
theorem in_ok (hK : X.K = T.K) (hu : X.A.units + 65 < cLine) : OpR X (compareOp .In) (R2of T inM) := in_core (n := id) op_in_sign (op_inDT hu) hK
theorem notin_ok (hK : X.K = T.K) (hu : X.A.units + 65 < cLine) : OpR X (compareOp .NotIn) (R2of T notinM) := in_core (n := not) op_notIn_sign (op_notinDT hu) hK
theorem non_iff {ρ : List Addr} {H : Hp} {a : MV} {x : V} (r : RV T ρ H a x) : isNonB a = decide (x = .non) := by
  cases a with
  | tup xs => unfold RV at r; obtain ⟨_, _, rfl, _⟩ := r; rfl
  | fl xs => unfold RV at r; obtain ⟨_, _, rfl, _⟩ := r; rfl
  | loc xs => unfold RV at r; obtain ⟨_, rfl, _⟩ := r; rfl
  | _ => unfold RV at r; subst r; rfl
theorem is_ok : OpR X (compareOp .Is) (R2of T isM) := by
  intro pins s σ H x y v u Q I rx ry ⟨ρ, a, b, mh, m, mh', rh, ra, rb, hp, k⟩
  unfold isM at hp
  split at hp
  · cases hp
    have e := non_iff ra
    unfold RV at rb; subst rb
    refine op_isN pins s σ H _ _ v u Q I rx ry ⟨rfl, ?_⟩
    rw [← e]
    exact k.pure rh .bl
  · cases hp
theorem isnot_ok : OpR X (compareOp .IsNot) (R2of T isnotM) := by
  intro pins s σ H x y v u Q I rx ry ⟨ρ, a, b, mh, m, mh', rh, ra, rb, hp, k⟩
  unfold isnotM at hp
  split at hp
  · cases hp
    have e := non_iff ra
    unfold RV at rb; subst rb
    refine op_notN pins s σ H _ _ v u Q I rx ry ⟨rfl, ?_⟩
    rw [← e]
    exact k.pure rh .bl
  · cases hp
end
/-! ### places -/
/-- the item at a place of any sign -/
def getM (xs : List MV) (i : Int) : Option MV := match i with
  | .ofNat n => xs[n]?
  | .negSucc n => if Nat.ble (n + 1) xs.length then xs[xs.length - (n + 1)]? else none
def getC (xs : List Nat) (i : Int) : Option Nat := match i with
  | .ofNat n => xs[n]?
  | .negSucc n => if Nat.ble (n + 1) xs.length then xs[xs.length - (n + 1)]? else none
def ixM : P2
  | .tup xs, .int i, mh => match getM xs i with
    | some v => some (v, mh)
    | none => none
  | .fl xs, .int i, mh => match getM xs i with
    | some v => some (v, mh)
    | none => none
  | .loc n, .int i, mh => match mh[n]? with
    | some (.lst xs) => match getM xs i with
      | some v => some (v, mh)
      | none => none
    | _ => none
  | .str cs, .int i, mh => match getC cs i with
    | some c => if Nat.ble cs.length lim then some (.str [c], mh) else none
    | none => none
  | _, _, _ => none
section
variable {T : Tx} {X : Cx}
theorem ixN_of {n : Nat} {i : Int} {j : Nat} (h : (0 ≤ i ∧ i.toNat = j ∧ j < n) ∨ (i < 0 ∧ (i + n).toNat = j ∧ -(n : Int) ≤ i)) : ixN n i = some j := by
  unfold ixN
  rcases h with ⟨h1, h2, h3⟩ | ⟨h1, h2, h3⟩
  · rw [if_pos h1, if_pos (by omega), h2]
  · rw [if_neg (by omega), if_pos h3, h2]
theorem atI_of {α : Type} {xs : List α} {i : Int} {v : α} (h : (match i with
  | .ofNat n => xs[n]?
  | .negSucc n => if Nat.ble (n + 1) xs.length then xs[xs.length - (n + 1)]? else none) = some v) : atI xs i = some v := by
  unfold atI
  split at h
  · rename_i n
    have hn := (List.getElem?_eq_some_iff.mp h).1
    rw [ixN_of (j := n) (.inl ⟨by simp, by simp, hn⟩)]
    exact h
  · rename_i n
    split at h
    · rename_i hb
      have hb := Nat.le_of_ble_eq_true hb
      rw [ixN_of (j := xs.length - (n + 1)) (.inr ⟨by omega, by omega, by omega⟩)]
      exact h
    · cases h
theorem atI_rel {ρ : List Addr} {H : Hp} {xs : List MV} {vs : List V} {i : Int} {m : MV} (r : RVs T ρ H xs vs) (h : getM xs i = some m) : ∃ v, atI vs i = some v ∧ RV T ρ H m v := by
  unfold getM at h
  split at h
  · rename_i n
    obtain ⟨v, e, rv⟩ := r.get h
    exact ⟨v, atI_of e, rv⟩
  · rename_i n
    split at h
    · rename_i hb
      obtain ⟨v, e, rv⟩ := r.get h
      refine ⟨v, atI_of ?_, rv⟩
      show (if Nat.ble (n + 1) vs.length then vs[vs.length - (n + 1)]? else none) = some v
      rw [r.len, if_pos hb]
      exact e
    · cases h
theorem ix_ok (hK : X.K = T.K) : IxR X (R2of T ixM) := by
  intro value slice pins s σ H x y v u Q I rx ry ⟨ρ, a, b, mh, m, mh', rh, ra, rb, hp, k⟩ hs
  unfold ixM at hp
  split at hp
  · split at hp
    · rename_i e
      cases hp; unfold RV at ra rb; subst rb
      obtain ⟨p, vs, rfl, t1, r1⟩ := ra
      obtain ⟨z, ez, rz⟩ := atI_rel r1 e
      exact ix_tup value slice pins s σ H _ _ v u Q I rx ry ⟨p, vs, _, z, rfl, rfl, by rw [hK]; exact t1.sq, ez, k.pure rh rz⟩ hs
    · cases hp
  · split at hp
    · rename_i e
      cases hp; unfold RV at ra rb; subst rb
      obtain ⟨p, vs, rfl, t1, r1⟩ := ra
      obtain ⟨z, ez, rz⟩ := atI_rel r1 e
      exact ix_list value slice pins s σ H _ _ v u Q I rx ry ⟨p, vs, _, z, rfl, rfl, by rw [hK]; exact t1.sq, ez, k.pure rh rz⟩ hs
    · cases hp
  · split at hp
    · split at hp
      · rename_i e
        cases hp; unfold RV at rb; subst rb
        obtain ⟨p, vs, rfl, g1, h1, r1⟩ := loc_lst rh ra (by assumption)
        obtain ⟨z, ez, rz⟩ := atI_rel r1 e
        exact ix_list value slice pins s σ H _ _ v u Q I rx ry ⟨p, vs, _, z, rfl, rfl, SqL.of h1, ez, k.pure rh rz⟩ hs
      · cases hp
    · cases hp
  · split at hp
    · split at hp
      · rename_i e hz
        cases hp; unfold RV at ra rb; subst ra rb
        refine ix_str value slice pins s σ H _ _ v u Q I rx ry ⟨S _, _, _, rfl, rfl, ?_, ?_, k.pure rh .str⟩ hs
        · rw [S_len, ← lim_eq]; exact Nat.le_of_ble_eq_true hz
        · rw [S_cps]; exact atI_of e
      · cases hp
    · cases hp
  · cases hp
end
/-! ### slices -/
def cutG {α : Type} (xs : List α) (lo hi : Option Int) : List α := (xs.drop (HT.sIx xs.length 0 lo)).take (HT.sIx xs.length xs.length hi - HT.sIx xs.length 0 lo)
def sliceM (a : MV) (lo hi : Option Int) (mh : MH) : Option (MV × MH) := match a with
  | .str cs => if Nat.ble cs.length lim then some (.str (cutG cs lo hi), mh) else none
  | .tup xs => some (.tup (cutG xs lo hi), mh)
  | .fl xs => some (.loc mh.length, mh ++ [.lst (cutG xs lo hi)])
  | .loc n => match mh[n]? with
    | some (.lst xs) => some (.loc mh.length, mh ++ [.lst (cutG xs lo hi)])
    | _ => none
  | _ => none
abbrev DO := Rt → Env' → MH → Rs (Option Int)
def noPartD : DO := fun _ _ mh => .ok none mh
def partD (d : DE) : DO := bnd d fun a _ _ mh => match a with
  | .int i => .ok (some i) mh
  | _ => .stuck
def sliceD (d : DE) (lo hi : DO) : DE := bnd d fun a => bnd lo fun l => bnd hi fun h _ _ mh => lft (sliceM a l h mh)
section
variable {T : Tx} {X : Cx} {W : WX} {rt : Rt} {e : Expr} {pos p2 : Pos}
abbrev TOof (T : Tx) (W : WX) (rt : Rt) (d : DO) : TO := Tof T (fun _ _ a b => a = b) W rt d
theorem so_none : PO X none (TOof T W rt noPartD) := ⟨fun pins s σ H Q I ⟨ρ, env, mh, rh, rs, w⟩ => po_none.run pins s σ H Q I (w none ρ H .refl rh rfl)⟩
theorem so_some {d : DE} (h : PE X e (TEof T W rt d)) : PO X (some e) (TOof T W rt (partD d)) := ⟨fun pins s σ H Q I ⟨ρ, env, mh, rh, rs, w⟩ => (po_some h).run pins s σ H Q I ((Want.bind rh rs w).mono fun x H1 ⟨ρ1, mh1, a, e1, rh1, rs1, ra, w1⟩ => by
  cases a <;> first | exact w1.elim | skip
  unfold RV at ra
  subst ra
  exact ⟨_, rfl, w1 _ ρ1 H1 .refl rh1 rfl⟩)⟩
def RSlof (T : Tx) : V → Option Int → Option Int → Hp → VK → Prop := fun x lo hi H Q => ∃ ρ a mh m mh', RH T ρ mh H ∧ RV T ρ H a x ∧ sliceM a lo hi mh = some (m, mh') ∧ Aft T ρ H m mh' Q
theorem cutG_rel {ρ : List Addr} {H : Hp} {xs : List MV} {vs : List V} (r : RVs T ρ H xs vs) (lo hi : Option Int) : RVs T ρ H (cutG xs lo hi) (cutV vs lo hi) := by
  unfold cutG cutV
  rw [r.len]
  exact (r.drop _).take _
theorem slice_ok (hK : X.K = T.K) : SlR X (RSlof T) := by
  intro pins s σ H x v vl vu lo hi sl Q I rx hs pl pu ⟨ρ, a, mh, m, mh', rh, ra, hp, k⟩
  unfold sliceM at hp
  split at hp
  · split at hp
    · rename_i hz
      cases hp; unfold RV at ra; subst ra
      refine sl_str pins s σ H _ v vl vu lo hi sl Q I rx hs pl pu ⟨S _, rfl, ?_, ?_⟩
      · rw [S_len, ← lim_eq]; exact Nat.le_of_ble_eq_true hz
      · have e : ∀ cs, cutS (S cs) lo hi = S (cutG cs lo hi) := fun cs => by
          unfold cutS cutG
          rw [S_len, S_cps]; rfl
        rw [e]
        exact k.pure rh .str
    · cases hp
  · rename_i xs
    cases hp; unfold RV at ra
    obtain ⟨p, vs, rfl, t1, r1⟩ := ra
    refine sl_tupA pins s σ H _ v vl vu lo hi sl Q I rx hs pl pu ⟨p, vs, rfl, by rw [hK]; exact t1.sq, fun ⟨e1, e2⟩ => ?_, fun _ z hz => k.tup rh (cutG_rel r1 lo hi) hz⟩
    refine k.pure rh ?_
    have e3 : cutG xs lo hi = xs := by
      unfold cutG
      rw [← r1.len, e1, e2, List.drop_zero, Nat.sub_zero, r1.len, List.take_length]
    rw [e3]
    unfold RV; exact ⟨p, vs, rfl, t1, r1⟩
  · cases hp; unfold RV at ra
    obtain ⟨p, vs, rfl, t1, r1⟩ := ra
    exact sl_list pins s σ H _ v vl vu lo hi sl Q I rx hs pl pu ⟨p, vs, rfl, by rw [hK]; exact t1.sq, fun z hz => k.lst rh (cutG_rel r1 lo hi) hz⟩
  · split at hp
    · cases hp
      obtain ⟨p, vs, rfl, g1, h1, r1⟩ := loc_lst rh ra (by assumption)
      exact sl_list pins s σ H _ v vl vu lo hi sl Q I rx hs pl pu ⟨p, vs, rfl, SqL.of h1, fun z hz => k.lst rh (cutG_rel r1 lo hi) hz⟩
    · cases hp
  · cases hp
theorem se_slice {d : DE} {dl dh : DO} {lo hi : Option Expr} (hK : X.K = T.K) (he : PE X e (TEof T W rt d)) (hl : PO X lo (TOof T W rt dl)) (hu : PO X hi (TOof T W rt dh)) : PE X (.Subscript e (.Slice lo hi none p2) pos) (TEof T W rt (sliceD d dl dh)) :=
  (pe_slice (slice_ok hK) he hl hu).imp fun σ H Q ⟨ρ, env, mh, rh, rs, w⟩ => (Want.bind rh rs w).mono fun x H1 ⟨ρ1, mh1, a, e1, rh1, rs1, ra, w1⟩ => (Want.bind (rel := fun _ _ a b => a = b) rh1 rs1 w1).mono fun y H2 ⟨ρ2, mh2, b, e2, rh2, rs2, rb, w2⟩ =>
    (Want.bind (rel := fun _ _ a b => a = b) rh2 rs2 w2).mono fun z H3 ⟨ρ3, mh3, c, e3, rh3, rs3, rc, w3⟩ => by
      subst rb rc
      obtain ⟨m, mh4, hp, k⟩ := lft_want w3
      exact ⟨ρ3, a, mh3, m, mh4, rh3, (ra.mono e2).mono e3, hp, k⟩
end
end Vf
end L2
end
section
/-! VE: defs by their denotations: what a def promises, its call, its body. -/
namespace L2
namespace Vf
open PySem PySem.Spec PyProof.Rows
/-- what a def with n parameters promises: cl tells its result -/
def spOf (T : Tx) (cl : List MV → MH → Rs MV) (n : Nat) : Sp := fun vs H Q E => vs.length = n ∧ ∃ ρ as mh, RH T ρ mh H ∧ RVs T ρ H as vs ∧ Want T (RV T) ρ H E (cl as mh) Q
/-- a def holds its promise wherever no text is being written by repr -/
structure FnG (P : Program) (w : World) (K : PySem.W.Frag) (mg : Str → Option Value) (base : Heap) (k : Nat) (f : Addr) (fd : FuncData) (ps : List Str) (sp : Sp) : Prop where
  len : ∀ vs H Q E, sp vs H Q E → vs.length = ps.length
  run : ∀ (A : Around) (outer : List Env) (s : Shared) (H : Hp) (args : Args) (us : List Value) (vs : List V) (Q : VK) (E : XK), A.guards = some [] → Room k A → Env0 P w K mg base A outer s H → BindsTo s fd args (ps.zip us) → Vals vs us → sp vs H Q E →
    codeAny (model P w) A (.call (.ref f) args) (CR (L2.CX P w) outer P w H s Q E) s
/-- the keywords' values in the parameters' order -/
def kwIn {α : Type} (ps ks : List Str) (ws : List α) : List α := ps.filterMap fun p => (ks.zip ws).lookup p
theorem look_rel {zs : List V} {ws : List Value} (h : Vals zs ws) (p : Str) : ∀ ks : List Str, ((ks.zip zs).lookup p = none ∧ (ks.zip ws).lookup p = none) ∨ ∃ v u, (ks.zip zs).lookup p = some v ∧ (ks.zip ws).lookup p = some u ∧ RelV v u := by
  induction h with
  | nil => intro ks; cases ks <;> exact .inl ⟨rfl, rfl⟩
  | @cons v u zs ws r t ih =>
    intro ks
    cases ks with
    | nil => exact .inl ⟨rfl, rfl⟩
    | cons k ks =>
      rw [List.zip_cons_cons, List.zip_cons_cons, List.lookup_cons, List.lookup_cons]
      cases e : p == k with
      | true => exact .inr ⟨v, u, rfl, rfl, r⟩
      | false => exact ih ks
theorem kwIn_vals {zs : List V} {ws : List Value} (h : Vals zs ws) (ks : List Str) : ∀ ps : List Str, Vals (kwIn ps ks zs) (kwIn ps ks ws)
  | [] => .nil
  | p :: ps => by
    unfold kwIn
    rw [List.filterMap_cons, List.filterMap_cons]
    rcases look_rel h p ks with ⟨e1, e2⟩ | ⟨v, u, e1, e2, r⟩
    · rw [e1, e2]; exact kwIn_vals h ks ps
    · rw [e1, e2]; exact .cons r (kwIn_vals h ks ps)
section
variable {T : Tx} {ρ : List Addr} {H : Hp}
theorem look_rv (p : Str) : ∀ {ms : List MV} {zs : List V}, RVs T ρ H ms zs → ∀ ks : List Str, ((ks.zip ms).lookup p = none ∧ (ks.zip zs).lookup p = none) ∨ ∃ m v, (ks.zip ms).lookup p = some m ∧ (ks.zip zs).lookup p = some v ∧ RV T ρ H m v
  | [], zs, h, ks => by
    unfold RVs at h; subst h
    cases ks <;> exact .inl ⟨rfl, rfl⟩
  | m :: ms, zs, h, ks => by
    unfold RVs at h
    obtain ⟨v, r, rfl, h1, h2⟩ := h
    cases ks with
    | nil => exact .inl ⟨rfl, rfl⟩
    | cons k ks =>
      rw [List.zip_cons_cons, List.zip_cons_cons, List.lookup_cons, List.lookup_cons]
      cases e : p == k with
      | true => exact .inr ⟨m, v, rfl, rfl, h1⟩
      | false => exact look_rv p h2 ks
theorem kwIn_rv {ms : List MV} {zs : List V} (h : RVs T ρ H ms zs) (ks : List Str) : ∀ ps : List Str, RVs T ρ H (kwIn ps ks ms) (kwIn ps ks zs)
  | [] => .nil
  | p :: ps => by
    unfold kwIn
    rw [List.filterMap_cons, List.filterMap_cons]
    rcases look_rv p h ks with ⟨e1, e2⟩ | ⟨v, u, e1, e2, r⟩
    · rw [e1, e2]; exact kwIn_rv h ks ps
    · rw [e1, e2]; exact .cons r (kwIn_rv h ks ps)
end
/-- how a call with n values by place and the keywords ks binds -/
def KwB (K : PySem.W.Frag) (fd : FuncData) (ps : List Str) (n : Nat) (ks : List Str) : Prop :=
  ∀ (s : Shared) (us ws : List Value), K.In s.heap → us.length = n → ws.length = ks.length → BindsTo s fd ⟨us, ks.zip ws⟩ (ps.zip (us ++ kwIn (ps.drop n) ks ws))
/-- a def of the text, as a caller knows it: its place among the defs, its name, its parameters, the calls by keywords that are met -/
structure FnR (T : Tx) (rt : Rt) (X : Cx) (i : Nat) (x : Str) (ps : List Str) (kws : List (Nat × List Str)) : Prop where
  ex : ∃ k f fd, FnG X.prog X.w X.K X.mg X.base k f fd ps (spOf T (rt.call i) ps.length) ∧ Room k X.A ∧ X.mg x = some (.ref f) ∧ PySem.W.keepIn X.K (.ref f) = true ∧ Binds X.K fd ps [] ∧ ∀ q ∈ kws, KwB X.K fd ps q.1 q.2
def callM (i np : Nat) (as : List MV) : DE := fun rt _ mh => if Nat.beq as.length np then rt.call i as mh else .stuck
def callD (i np : Nat) (dl : DL) : DE := bnd dl fun as => callM i np as
/-- rest: the parameters that stand behind those by place; n: how many by place -/
def callKD (i np n : Nat) (rest ks : List Str) (dl dk : DL) : DE := bnd dl fun as => bnd dk fun ws rt env mh => if Nat.beq as.length n && Nat.beq ws.length ks.length then callM i np (as ++ kwIn rest ks ws) rt env mh else .stuck
section
variable {T : Tx} {X : Cx} {W : WX} {rt : Rt} {i : Nat} {x : Str} {ps ks : List Str} {kws : List (Nat × List Str)} {kwl : List Keyword} {e : Expr} {es : List Expr} {dl dk : DL} {p pos : Pos}
theorem run_fnG {k : Nat} {f : Addr} {fd : FuncData} {pins : List (Addr × Obj)} {σ : St} {H : Hp} {s : Shared} {Q : VK} {us : List Value} {vs : List V} {sp : Sp} {args : Args} (F : FnG X.prog X.w X.K X.mg X.base k f fd ps sp) (hg : X.A.guards = some []) (hr : Room k X.A) (tk : Takes X W)
    (I : Inv X pins σ H s) (r : Vals vs us) (hb : BindsTo s fd args (ps.zip us)) (h : sp vs H Q fun c d H' => W c d σ H') : codeAny (model X.prog X.w) X.A (.call (.ref f) args) (fun r s' => match r with
      | .ok (.ret u) => EP X pins σ Q u s'
      | .ok _ => False
      | .error e => X.xe e s') s := by
  refine codeAny_mono (F.run X.A X.stack s H args us vs Q _ hg hr I.env0 hb r h) fun r s' hq => ?_
  cases r with
  | error e => exact passAt tk σ pins H s e s' I hq
  | ok fl =>
    cases fl with
    | ret u => exact I.after hq
    | next => exact hq.elim
    | brk => exact hq.elim
    | cont => exact hq.elim
theorem call_of_code {f : Value} {us : List Value} {kw : List (Str × Value)} {A : Around} {s : Shared} {Q : Value → Shared → Prop} {E : Value → Shared → Prop} {M : Model} (h : codeAny M A (.call f ⟨us, kw⟩) (fun r s' => match r with
      | .ok (.ret u) => Q u s'
      | .ok _ => False
      | .error e => E e s') s) : wpAny M A (call f us kw) Q E s := by
  refine wpAny_call (codeAny_mono h fun r s' hq => ?_)
  rcases r with e | (v | _ | _ | _) <;> first | exact hq | exact hq.elim
theorem callM_want {as : List MV} {env : Env'} {mh : MH} {ρ : List Addr} {H : Hp} {E : XK} {Q : VK} {np : Nat} (w : Want T (RV T) ρ H E (callM i np as rt env mh) Q) : as.length = np ∧ Want T (RV T) ρ H E (rt.call i as mh) Q := by
  unfold callM at w
  split at w
  · rename_i h
    exact ⟨Nat.eq_of_beq_eq_true h, w⟩
  · exact w.elim
theorem se_call (hg : X.A.guards = some []) (tk : Takes X W) (F : FnR T rt X i x ps kws) (hgl : Gl X x) (ha : PA X (e :: es) (TAof T W rt dl)) (hdb : (x == ("__debug__" : Str)) = false)
    (he : starEach (e :: es) X.env = (false, eval e X.env) :: starEach es X.env) (hpl : (backTo pos (starEach es X.env)).any (·.1) = false) : PE X (.Call (.Name x p) (e :: es) [] pos) (TEof T W rt (callD i ps.length dl)) := by
  obtain ⟨k, f, fd, F, hr, hm, hk, hb, _⟩ := F.ex
  refine ⟨fun pins s σ H Q I ⟨ρ, env, mh, rh, rs, w⟩ => ?_⟩
  refine wpAny_Call_Name_kw (ld_glob I hgl hm ?_ hdb)
  refine PySem.W.callWith_K (h₀ := X.base) I.ok.mod.kin hk (thn (ha.run pos pins s σ H _ I (Want.bind rh rs w)) fun us s1 ⟨vs, H1, I1, r, ρ1, mh1, as, e1, rh1, rs1, ra, w1⟩ => ⟨I1.kIn, ?_⟩) he hpl
  obtain ⟨hn, w1⟩ := callM_want w1
  have q : spOf T (rt.call i) ps.length vs H1 Q fun c d H' => W c d σ H' := ⟨by rw [ra.len, hn], ρ1, as, mh1, rh1, ra, w1⟩
  have hl : us.length = ps.length := by rw [← r.length]; exact F.len _ _ _ _ q
  have b := hb s1 us I1.kIn (by rw [List.append_nil]; exact hl)
  rw [List.append_nil] at b
  exact call_of_code (run_fnG F hg hr tk I1 r b q)
theorem kw_core {k : Nat} {f : Addr} {fd : FuncData} {n : Nat} (F : FnG X.prog X.w X.K X.mg X.base k f fd ps (spOf T (rt.call i) ps.length)) (hg : X.A.guards = some []) (hr : Room k X.A) (tk : Takes X W) (hb : KwB X.K fd ps n ks)
    {pins : List (Addr × Obj)} {σ : St} {s : Shared} {H : Hp} {Q : VK} {us ws : List Value} {vs zs : List V} {ρ : List Addr} {env : Env'} {as bs : List MV} {mh : MH} (I : Inv X pins σ H s) (r : Vals vs us) (r2 : Vals zs ws)
    (ra : RVs T ρ H as vs) (rb : RVs T ρ H bs zs) (rh : RH T ρ mh H)
    (w : Want T (RV T) ρ H (fun c dd H' => W c dd σ H') (if Nat.beq as.length n && Nat.beq bs.length ks.length then callM i ps.length (as ++ kwIn (ps.drop n) ks bs) rt env mh else .stuck) Q) :
    wpAny (model X.prog X.w) X.A (call (.ref f) us (ks.zip ws)) (EP X pins σ Q) X.xe s := by
  split at w
  · rename_i hh
    have hh := Bool.and_eq_true_iff.mp hh
    obtain ⟨hn, w1⟩ := callM_want w
    have rr := ra.append (kwIn_rv rb ks (ps.drop n))
    have q : spOf T (rt.call i) ps.length (vs ++ kwIn (ps.drop n) ks zs) H Q fun c d H' => W c d σ H' := ⟨by rw [rr.len, hn], ρ, _, mh, rh, rr, w1⟩
    have l1 : us.length = n := by rw [← r.length, ra.len]; exact Nat.eq_of_beq_eq_true hh.1
    have l2 : ws.length = ks.length := by rw [← r2.length, rb.len]; exact Nat.eq_of_beq_eq_true hh.2
    exact call_of_code (run_fnG F hg hr tk I (r.append (kwIn_vals r2 ks _)) (hb s us ws I.kIn l1 l2) q)
  · exact w.elim
theorem se_callK {n : Nat} (hg : X.A.guards = some []) (tk : Takes X W) (F : FnR T rt X i x ps kws) (hq : (n, ks) ∈ kws) (hgl : Gl X x) (ha : PA X (e :: es) (TAof T W rt dl)) (hkw : PK X kwl (TAof T W rt dk)) (hdb : (x == ("__debug__" : Str)) = false)
    (he : starEach (e :: es) X.env = (false, eval e X.env) :: starEach es X.env) (hall : (backToKw pos (keywordEach kwl X.env)).all (·.1.isSome) = true) (hks : (backToKw pos (keywordEach kwl X.env)).filterMap (·.1) = ks)
    (hpl : ((backTo pos (starEach (e :: es) X.env)).any (·.1) || (backToKw pos (keywordEach kwl X.env)).any (·.1.isNone)) = false) :
    PE X (.Call (.Name x p) (e :: es) kwl pos) (TEof T W rt (callKD i ps.length n (ps.drop n) ks dl dk)) := by
  obtain ⟨k, f, fd, F, hr, hm, hk, _, hb⟩ := F.ex
  refine ⟨fun pins s σ H Q I ⟨ρ, env, mh, rh, rs, w⟩ => ?_⟩
  refine wpAny_Call_Name_kw (ld_glob I hgl hm ?_ hdb)
  refine PySem.W.callWith_KW (h₀ := X.base) I.ok.mod.kin hk hall (thn (ha.run pos pins s σ H _ I (Want.bind rh rs w)) fun us s1 ⟨vs, H1, I1, r, ρ1, mh1, as, e1, rh1, rs1, ra, w1⟩ => ?_) hpl he
  refine thn (hkw.run pos pins s1 σ H1 _ I1 (Want.bind (rel := RVs T) rh1 rs1 w1)) fun ws s2 ⟨zs, H2, I2, r2, ρ2, mh2, bs, e2, rh2, rs2, rb, w2⟩ => ⟨I2.kIn, ?_⟩
  rw [hks]
  exact kw_core F hg hr tk (hb _ hq) I2 r r2 (ra.mono e2) rb rh2 w2
theorem se_callK0 (hg : X.A.guards = some []) (tk : Takes X W) (F : FnR T rt X i x ps kws) (hq : (0, ks) ∈ kws) (hgl : Gl X x) (hkw : PK X kwl (TAof T W rt dk)) (hdb : (x == ("__debug__" : Str)) = false)
    (hall : (backToKw pos (keywordEach kwl X.env)).all (·.1.isSome) = true) (hks : (backToKw pos (keywordEach kwl X.env)).filterMap (·.1) = ks)
    (hpl : ((backTo pos (starEach [] X.env)).any (·.1) || (backToKw pos (keywordEach kwl X.env)).any (·.1.isNone)) = false) :
    PE X (.Call (.Name x p) [] kwl pos) (TEof T W rt (callKD i ps.length 0 (ps.drop 0) ks nilD dk)) := by
  obtain ⟨k, f, fd, F, hr, hm, hk, _, hb⟩ := F.ex
  refine ⟨fun pins s σ H Q I ⟨ρ, env, mh, rh, rs, w⟩ => ?_⟩
  refine wpAny_Call_Name_kw (ld_glob I hgl hm ?_ hdb)
  refine PySem.W.callWith_KW0 (h₀ := X.base) I.ok.mod.kin hk hall ?_ hpl
  have w1 : Want T (RV T) ρ H (fun c dd H' => W c dd σ H') (bnd dk (fun ws rt env mh => if Nat.beq ([] : List MV).length 0 && Nat.beq ws.length ks.length then callM i ps.length ([] ++ kwIn (ps.drop 0) ks ws) rt env mh else .stuck) rt env mh) Q := w
  refine thn (hkw.run pos pins s σ H _ I (Want.bind (rel := RVs T) rh rs w1)) fun ws s2 ⟨zs, H2, I2, r2, ρ2, mh2, bs, e2, rh2, rs2, rb, w2⟩ => ⟨I2.kIn, ?_⟩
  rw [hks]
  exact kw_core F hg hr tk (hb _ hq) I2 .nil r2 .nil rb rh2 w2
end
/-! ### a def's body -/
/-- a body's result -/
def bodyR (b : DS) (np nl : Nat) (rt : Rt) (as : List MV) (mh : MH) : Rs MV := if Nat.beq as.length np then
    match b rt (as.map some ++ List.replicate (nl - np) none) mh with
    | .nx _ h => .ok .non h
    | .rt v h => .ok v h
    | .exc x _ h => .exc x h
    | _ => .stuck
  else .stuck
end Vf
end L2
end
section
/-! VF: statements. -/
namespace L2
namespace Vf
open PySem PySem.Spec PyProof.Rows
section
variable (T : Tx)
def WantS (W : WX) (ρ : List Addr) (H : Hp) (D : Ends) (r : RsS) : Prop := match r with
  | .nx e mh => ∀ σ' ρ' H', Ext ρ H ρ' H' → RH T ρ' mh H' → RSt T ρ' H' e σ' → D.nx σ' H'
  | .bk e mh => ∀ σ' ρ' H', Ext ρ H ρ' H' → RH T ρ' mh H' → RSt T ρ' H' e σ' → D.bk σ' H'
  | .ct e mh => ∀ σ' ρ' H', Ext ρ H ρ' H' → RH T ρ' mh H' → RSt T ρ' H' e σ' → D.ct σ' H'
  | .rt v mh => ∀ x ρ' H', Ext ρ H ρ' H' → RH T ρ' mh H' → RV T ρ' H' v x → D.rt x H'
  | .exc x e mh => ∀ cls dd σ' ρ' H', Ext ρ H ρ' H' → RH T ρ' mh H' → RX T ρ' H' x cls dd → RSt T ρ' H' e σ' → W cls dd σ' H'
  | .stuck => False
def TSof (W : WX) (rt : Rt) (d : DS) : TS := fun D σ H => ∃ ρ env mh, RH T ρ mh H ∧ RSt T ρ H env σ ∧ WantS T W ρ H D (d rt env mh)
/-- a target -/
def WantG (P : St → Prop) (ρ : List Addr) (H : Hp) (r : RsS) (Q : St → Hp → Prop) : Prop := match r with
  | .nx e mh => ∀ σ' ρ' H', P σ' → Ext ρ H ρ' H' → RH T ρ' mh H' → RSt T ρ' H' e σ' → Q σ' H'
  | _ => False
/-- P: what the target leaves of the slots -/
def TGof (P : St → St → Prop) (rt : Rt) (d : DG) : TG := fun x σ H Q => ∃ ρ env mh v, RH T ρ mh H ∧ RSt T ρ H env σ ∧ RV T ρ H v x ∧ WantG T (P σ) ρ H (d rt v env mh) Q
abbrev AnyP : St → St → Prop := fun _ _ => True
abbrev DGs := Rt → List MV → Env' → MH → RsS
def TGsof (P : St → St → Prop) (rt : Rt) (d : DGs) : TGs := fun xs σ H Q => ∃ ρ env mh vs, RH T ρ mh H ∧ RSt T ρ H env σ ∧ RVs T ρ H vs xs ∧ WantG T (P σ) ρ H (d rt vs env mh) Q
/-- what is walked -/
def ItOk (ρ1 : List Addr) (H1 : Hp) (nxt : Nxt) (J : It) : Prop := ∀ i ρ H mh, Ext ρ1 H1 ρ H → RH T ρ mh H →
  (nxt i mh = some none → J.stop i H) ∧ ∀ v, nxt i mh = some (some v) → J.go i H ∧ ∀ x H', J.yld i H x H' → Ext ρ H ρ H' ∧ RH T ρ mh H' ∧ RV T ρ H' v x
abbrev TIof (W : WX) (rt : Rt) (d : DI) : TI := Tof T (ItOk T) W rt d
end
def toS {α : Type} (r : Rs α) (env : Env') (f : α → MH → RsS) : RsS := match r with
  | .ok a mh => f a mh
  | .exc e mh => .exc e env mh
  | .stuck => .stuck
def exprS (d : DE) : DS := fun rt env mh => toS (d rt env mh) env fun _ mh => .nx env mh
def setS (i : Nat) (d : DE) : DS := fun rt env mh => toS (d rt env mh) env fun v mh => .nx (env.set i (some v)) mh
def asgS (d : DE) (g : DG) : DS := fun rt env mh => toS (d rt env mh) env fun v mh => g rt v env mh
def retS (d : DE) : DS := fun rt env mh => toS (d rt env mh) env fun v mh => .rt v mh
def retNS : DS := fun _ _ mh => .rt .non mh
def ifS (c : DB) (a b : DS) : DS := fun rt env mh => toS (c rt env mh) env fun k mh => match k with
  | true => a rt env mh
  | false => b rt env mh
def seqS (a b : DS) : DS := fun rt env mh => match a rt env mh with
  | .nx e h => b rt e h
  | r => r
def passS : DS := fun _ env mh => .nx env mh
def brkS : DS := fun _ env mh => .bk env mh
def ctS : DS := fun _ env mh => .ct env mh
def stuckS : DS := fun _ _ _ => .stuck
def whileL (c : DB) (b : DS) (rt : Rt) : Nat → Env' → MH → RsS
  | 0, _, _ => .stuck
  | n + 1, env, mh => toS (c rt env mh) env fun k mh => match k with
    | false => .nx env mh
    | true => match b rt env mh with
      | .nx e h => whileL c b rt n e h
      | .ct e h => whileL c b rt n e h
      | .bk e h => .nx e h
      | r => r
def whileS (c : DB) (b : DS) : DS := fun rt env mh => whileL c b rt rt.fuel env mh
def forL (nxt : Nxt) (g : DG) (b : DS) (rt : Rt) : Nat → Nat → Env' → MH → RsS
  | 0, _, _, _ => .stuck
  | n + 1, i, env, mh => match nxt i mh with
    | none => .stuck
    | some none => .nx env mh
    | some (some v) => match g rt v env mh with
      | .nx e h => match b rt e h with
        | .nx e h => forL nxt g b rt n (i + 1) e h
        | .ct e h => forL nxt g b rt n (i + 1) e h
        | .bk e h => .nx e h
        | r => r
      | _ => .stuck
def forS (d : DI) (g : DG) (b : DS) : DS := fun rt env mh => toS (d rt env mh) env fun nxt mh => forL nxt g b rt rt.fuel 0 env mh
def nameG (i : Nat) : DG := fun _ v env mh => .nx (env.set i (some v)) mh
def nilG : DGs := fun _ vs env mh => match vs with
  | [] => .nx env mh
  | _ => .stuck
def consG (g : DG) (t : DGs) : DGs := fun rt vs env mh => match vs with
  | [] => .stuck
  | v :: r => match g rt v env mh with
    | .nx e h => t rt r e h
    | _ => .stuck
def tupG (n : Nat) (t : DGs) : DG := fun rt v env mh => match v with
  | .tup xs => if Nat.beq xs.length n then t rt xs env mh else .stuck
  | _ => .stuck
/-- o[i] = v -/
def stIx (o i v : MV) (mh : MH) : Option MH := match o, i with
  | .loc n, .int (.ofNat j) => match mh[n]? with
    | some (.lst xs) => if Nat.blt j xs.length then some (mh.set n (.lst (xs.set j v))) else none
    | _ => none
  | _, _ => none
def subG (o i : DE) : DG := fun rt v env mh => match o rt env mh with
  | .ok a mh => match i rt env mh with
    | .ok b mh => match stIx a b v mh with
      | some mh => .nx env mh
      | none => .stuck
    | _ => .stuck
  | _ => .stuck
section
variable {T : Tx} {X : Cx} {W : WX} {rt : Rt} {ρ ρ' : List Addr} {H H' : Hp} {D : Ends} {pos : Pos} {e : Expr}
theorem WantS.from {r : RsS} (x : Ext ρ H ρ' H') (l : ∀ a ∈ ρ', H' a ≠ none) (w : WantS T W ρ H D r) : WantS T W ρ' H' D r := by
  cases r with
  | nx e mh => exact fun σ ρ2 H2 e2 => w σ ρ2 H2 (x.trans e2 l)
  | bk e mh => exact fun σ ρ2 H2 e2 => w σ ρ2 H2 (x.trans e2 l)
  | ct e mh => exact fun σ ρ2 H2 e2 => w σ ρ2 H2 (x.trans e2 l)
  | rt v mh => exact fun σ ρ2 H2 e2 => w σ ρ2 H2 (x.trans e2 l)
  | exc v e mh => exact fun c d σ ρ2 H2 e2 => w c d σ ρ2 H2 (x.trans e2 l)
  | stuck => exact w
theorem WantS.bind {α β : Type} {rel : List Addr → Hp → α → β → Prop} {σ : St} {env : Env'} {mh : MH} {d : Rt → Env' → MH → Rs α} {f : α → MH → RsS}
    (rh : RH T ρ mh H) (rs : RSt T ρ H env σ) (w : WantS T W ρ H D (toS (d rt env mh) env f)) :
    Tof T rel W rt d σ H fun b H1 => ∃ ρ1 mh1 a, Ext ρ H ρ1 H1 ∧ RH T ρ1 mh1 H1 ∧ RSt T ρ1 H1 env σ ∧ rel ρ1 H1 a b ∧ WantS T W ρ1 H1 D (f a mh1) := by
  refine ⟨ρ, env, mh, rh, rs, ?_⟩
  cases e : d rt env mh with
  | ok a mh' =>
    rw [e] at w
    exact fun b ρ1 H1 e1 r1 q => ⟨ρ1, mh', a, e1, r1, rs.mono e1, q, WantS.from e1 r1.ne w⟩
  | exc x mh' =>
    rw [e] at w
    exact fun c d ρ1 H1 e1 r1 q => w c d σ ρ1 H1 e1 r1 q (rs.mono e1)
  | stuck =>
    rw [e] at w
    exact w
theorem ss_expr {d : DE} (he : PE X e (TEof T W rt d)) (hs : swapsWith e none pos.line X.env = pure false) : PS X (.Expr e pos) (TSof T W rt (exprS d)) :=
  (ps_expr he hs).imp fun D σ H ⟨ρ, env, mh, rh, rs, w⟩ => (WantS.bind rh rs w).mono fun x H1 ⟨ρ1, mh1, a, e1, rh1, rs1, ra, w1⟩ => w1 σ ρ1 H1 .refl rh1 rs1
theorem ss_ret {d : DE} (he : PE X e (TEof T W rt d)) : PS X (.Return (some e) pos) (TSof T W rt (retS d)) :=
  (ps_ret he).imp fun D σ H ⟨ρ, env, mh, rh, rs, w⟩ => (WantS.bind rh rs w).mono fun x H1 ⟨ρ1, mh1, a, e1, rh1, rs1, ra, w1⟩ => w1 x ρ1 H1 .refl rh1 ra
theorem ss_retN : PS X (.Return none pos) (TSof T W rt retNS) :=
  ps_retN.imp fun D σ H ⟨ρ, env, mh, rh, rs, w⟩ => w .non ρ H .refl rh .non
theorem ss_pass : PS X (.Pass pos) (TSof T W rt passS) := ps_pass.imp fun D σ H ⟨ρ, env, mh, rh, rs, w⟩ => w σ ρ H .refl rh rs
theorem ss_break : PS X (.Break pos) (TSof T W rt brkS) := ps_break.imp fun D σ H ⟨ρ, env, mh, rh, rs, w⟩ => w σ ρ H .refl rh rs
theorem ss_cont : PS X (.Continue pos) (TSof T W rt ctS) := ps_continue.imp fun D σ H ⟨ρ, env, mh, rh, rs, w⟩ => w σ ρ H .refl rh rs
theorem ss_never {st : Stmt} : PS X st (TSof T W rt stuckS) := ps_never.imp fun D σ H ⟨ρ, env, mh, rh, rs, w⟩ => w.elim
theorem sss_nil : PSs X [] (TSof T W rt passS) := pss_nil.imp fun D σ H ⟨ρ, env, mh, rh, rs, w⟩ => w σ ρ H .refl rh rs
theorem sss_cons {st : Stmt} {rest : List Stmt} {a b : DS} (h1 : PS X st (TSof T W rt a)) (h2 : PSs X rest (TSof T W rt b)) : PSs X (st :: rest) (TSof T W rt (seqS a b)) :=
  (pss_cons h1 h2).imp fun D σ H ⟨ρ, env, mh, rh, rs, w⟩ => by
    refine ⟨ρ, env, mh, rh, rs, ?_⟩
    unfold seqS at w
    cases q : a rt env mh with
    | nx e h =>
      rw [q] at w
      exact fun σ' ρ' H' e' rh' rs' => ⟨ρ', e, h, rh', rs', WantS.from e' rh'.ne w⟩
    | rt v h => rw [q] at w; exact w
    | bk e h => rw [q] at w; exact w
    | ct e h => rw [q] at w; exact w
    | exc x e h => rw [q] at w; exact w
    | stuck => rw [q] at w; exact w
theorem ss_if {c : Expr} {a b : List Stmt} {dc : DB} {da db : DS} (hc : PT X c (TTof T W rt dc)) (ha : PSs X a (TSof T W rt da)) (hb : PSs X b (TSof T W rt db)) : PS X (.If c a b pos) (TSof T W rt (ifS dc da db)) :=
  (ps_if hc ha hb).imp fun D σ H ⟨ρ, env, mh, rh, rs, w⟩ => (WantS.bind (rel := fun _ _ a b => a = b) rh rs w).mono fun k H1 ⟨ρ1, mh1, k', e1, rh1, rs1, ra, w1⟩ => by
    subst ra
    cases k' with
    | true => exact iteT ⟨ρ1, env, mh1, rh1, rs1, w1⟩
    | false => exact iteF ⟨ρ1, env, mh1, rh1, rs1, w1⟩
theorem ss_while {c : Expr} {b : List Stmt} {dc : DB} {db : DS} (hp : PassesOwn (model X.prog X.w) X.A X.env X.xe) (hc : PT X c (TTof T W rt dc)) (hb : PSs X b (TSof T W rt db)) : PS X (.While c b [] pos) (TSof T W rt (whileS dc db)) :=
  (ps_while hp hc hb).imp fun D σ H ⟨ρ, env, mh, rh, rs, w⟩ => by
    refine ⟨fun m σ H => ∃ ρ env mh, RH T ρ mh H ∧ RSt T ρ H env σ ∧ WantS T W ρ H D (whileL dc db rt m env mh), ⟨rt.fuel, ρ, env, mh, rh, rs, w⟩, ?_⟩
    rintro m σ H ⟨ρ, env, mh, rh, rs, w⟩
    cases m with
    | zero => exact w.elim
    | succ n =>
      refine (WantS.bind (rel := fun _ _ a b => a = b) rh rs w).mono fun k H1 ⟨ρ1, mh1, k', e1, rh1, rs1, ra, w1⟩ => ?_
      subst ra
      cases k' with
      | false => exact iteF (w1 σ ρ1 H1 .refl rh1 rs1)
      | true =>
        refine iteT ⟨fun σ' H' => ∃ ρ env mh, RH T ρ mh H' ∧ RSt T ρ H' env σ' ∧ WantS T W ρ H' D (whileL dc db rt n env mh), fun σ' H' h => ⟨n, Nat.lt_succ_self n, h⟩, ρ1, env, mh1, rh1, rs1, ?_⟩
        replace w1 : WantS T W ρ1 H1 D (match db rt env mh1 with
          | .nx e h => whileL dc db rt n e h
          | .ct e h => whileL dc db rt n e h
          | .bk e h => .nx e h
          | r => r) := w1
        cases q : db rt env mh1 with
        | nx e h => rw [q] at w1; exact fun σ' ρ' H' e' rh' rs' => ⟨ρ', e, h, rh', rs', WantS.from e' rh'.ne w1⟩
        | ct e h => rw [q] at w1; exact fun σ' ρ' H' e' rh' rs' => ⟨ρ', e, h, rh', rs', WantS.from e' rh'.ne w1⟩
        | bk e h => rw [q] at w1; exact w1
        | rt v h => rw [q] at w1; exact w1
        | exc x e h => rw [q] at w1; exact w1
        | stuck => rw [q] at w1; exact w1
theorem ss_for {tg it : Expr} {b : List Stmt} {di : DI} {dg : DG} {db : DS} (hp : PassesOwn (model X.prog X.w) X.A X.env X.xe) (hc : X.calm = true) (hi : PI X tg it (TIof T W rt di)) (hg : PG X tg (TGof T AnyP rt dg)) (hb : PSs X b (TSof T W rt db))
    (hs : ∀ x, foldedSetIterable it X.env x = pure x) : PS X (.For tg it b [] pos) (TSof T W rt (forS di dg db)) :=
  (ps_for hp hc hi hg hb hs).imp fun D σ H ⟨ρ, env, mh, rh, rs, w⟩ => (WantS.bind (rel := ItOk T) rh rs w).mono fun J H1 ⟨ρ1, mh1, nxt, e1, rh1, rs1, ok, w1⟩ => by
    refine ⟨fun i m σ H => ∃ ρ env mh, Ext ρ1 H1 ρ H ∧ RH T ρ mh H ∧ RSt T ρ H env σ ∧ WantS T W ρ H D (forL nxt dg db rt m i env mh), ⟨rt.fuel, ρ1, env, mh1, .refl, rh1, rs1, w1⟩, ?_⟩
    rintro i m σ H ⟨ρ, env, mh, x1, rh, rs, w⟩
    cases m with
    | zero => exact w.elim
    | succ n =>
      obtain ⟨o1, o2⟩ := ok i ρ H mh x1 rh
      unfold forL at w
      cases q : nxt i mh with
      | none => rw [q] at w; exact w.elim
      | some r =>
        rw [q] at w
        cases r with
        | none => exact .inl ⟨o1 q, w σ ρ H .refl rh rs⟩
        | some v =>
          obtain ⟨g1, g2⟩ := o2 v q
          refine .inr ⟨g1, fun σ' H' => ∃ ρ env mh, Ext ρ1 H1 ρ H' ∧ RH T ρ mh H' ∧ RSt T ρ H' env σ' ∧ WantS T W ρ H' D (forL nxt dg db rt n (i + 1) env mh), fun σ' H' h => ⟨n, Nat.lt_succ_self n, h⟩, fun x H' y => ?_⟩
          obtain ⟨x2, rh2, rv⟩ := g2 x H' y
          refine ⟨ρ, env, mh, v, rh2, rs.mono x2, rv, ?_⟩
          have w2 := WantS.from x2 rh2.ne w
          have x3 := x1.trans x2 rh.ne
          cases q2 : dg rt v env mh with
          | nx e h =>
            have w3 : WantS T W ρ H' D (match db rt e h with
              | .nx e h => forL nxt dg db rt n (i + 1) e h
              | .ct e h => forL nxt dg db rt n (i + 1) e h
              | .bk e h => .nx e h
              | r => r) := by
              dsimp only at w2
              rw [q2] at w2
              exact w2
            intro σ' ρ' H2 _ e' rh' rs'
            refine ⟨ρ', e, h, rh', rs', ?_⟩
            have w4 := WantS.from e' rh'.ne w3
            have x4 := x3.trans e' rh2.ne
            cases q3 : db rt e h with
            | nx e2 h2 => rw [q3] at w4; exact fun σ2 ρ2 H3 e3 rh3 rs3 => ⟨ρ2, e2, h2, x4.trans e3 rh'.ne, rh3, rs3, WantS.from e3 rh3.ne w4⟩
            | ct e2 h2 => rw [q3] at w4; exact fun σ2 ρ2 H3 e3 rh3 rs3 => ⟨ρ2, e2, h2, x4.trans e3 rh'.ne, rh3, rs3, WantS.from e3 rh3.ne w4⟩
            | bk e2 h2 => rw [q3] at w4; exact w4
            | rt v2 h2 => rw [q3] at w4; exact w4
            | exc x2 e2 h2 => rw [q3] at w4; exact w4
            | stuck => rw [q3] at w4; exact w4
          | rt v2 h => dsimp only at w2; rw [q2] at w2; exact w2.elim
          | bk e h => dsimp only at w2; rw [q2] at w2; exact w2.elim
          | ct e h => dsimp only at w2; rw [q2] at w2; exact w2.elim
          | exc x e h => dsimp only at w2; rw [q2] at w2; exact w2.elim
          | stuck => dsimp only at w2; rw [q2] at w2; exact w2.elim
end
end Vf
end L2
end
section
/-! VG: targets, stores, names, tests, displays. -/
namespace L2
namespace Vf
open PySem PySem.Spec PyProof.Rows
/-- the context's names, as they are told: nm the kinds of the names that the text has here -/
structure NmOk (N : List Str) (nm : List (Str × NameKind)) (X : Cx) : Prop where
  N_ : X.N = N
  nd : N.Nodup
  lo : ∀ x, nm.lookup x = some .local → X.env.scope.names.lookup x = some .local
  ce : ∀ x, nm.lookup x = some .cell → X.env.scope.names.lookup x = some .cell
  fr : ∀ x, nm.lookup x = some .free → X.env.scope.names.lookup x = some .free ∨ X.env.scope.names.lookup x = some .cell
  gl : ∀ x, nm.lookup x = some .globalImplicit → X.env.scope.names.lookup x = some .globalImplicit
  fn : ∀ x, nm.lookup x = some .cell → X.fn x = true
def isVis (nm : List (Str × NameKind)) (x : Str) : Bool := match nm.lookup x with
  | some .local => true
  | some .cell => true
  | some .free => true
  | _ => false
def isLoc (nm : List (Str × NameKind)) (x : Str) : Bool := match nm.lookup x with
  | some .local => true
  | some .cell => true
  | _ => false
def isGlo (nm : List (Str × NameKind)) (x : Str) : Bool := match nm.lookup x with
  | some .globalImplicit => true
  | _ => false
section
variable {N : List Str} {nm : List (Str × NameKind)} {X : Cx}
theorem NmOk.vis (o : NmOk N nm X) {x : Str} (h : isVis nm x = true) : Vis X.env.scope x := by
  unfold isVis at h
  split at h
  · rename_i e; exact .inl (o.lo x e)
  · rename_i e; exact .inr (.inl (o.ce x e))
  · rename_i e
    rcases o.fr x e with q | q
    · exact .inr (.inr q)
    · exact .inr (.inl q)
  · cases h
theorem NmOk.loc (o : NmOk N nm X) {x : Str} (h : isLoc nm x = true) : Loc X.env.scope x ∧ (X.fn x = true ∨ X.env.scope.names.lookup x = some .local) := by
  unfold isLoc at h
  split at h
  · rename_i e; exact ⟨.inl (o.lo x e), .inr (o.lo x e)⟩
  · rename_i e; exact ⟨.inr (o.ce x e), .inl (o.fn x e)⟩
  · cases h
theorem NmOk.glo (o : NmOk N nm X) {x : Str} (h : isGlo nm x = true) : Gl X x := by
  unfold isGlo at h
  split at h
  · rename_i e; exact o.gl x e
  · cases h
end
section
variable {T : Tx} {X : Cx} {W : WX} {rt : Rt} {pos : Pos} {e : Expr} {N : List Str} {nm : List (Str × NameKind)}
/-! ### names, constants -/
def varD (i : Nat) : DE := fun _ env mh => match env[i]? with
  | some (some v) => .ok v mh
  | _ => .stuck
def conD (v : MV) : DE := fun _ _ mh => .ok v mh
theorem se_var {i : Nat} {x : Str} (o : NmOk N nm X) (hi : N[i]? = some x) (hv : isVis nm x = true) (hd : (x == ("__debug__" : Str)) = false) (hcd : (x == ("__classdict__" : Str)) = false) : PE X (.Name x pos) (TEof T W rt (varD i)) :=
  (pe_var (by rw [o.N_]; exact hi) (o.vis hv) hd hcd).imp fun σ H Q ⟨ρ, env, mh, rh, rs, w⟩ => by
    unfold varD at w
    split at w
    · rename_i v q
      obtain ⟨u, e1, r⟩ := rs.at_ i v q
      exact ⟨u, e1, w u ρ H .refl rh r⟩
    · exact w.elim
theorem se_con {m : MV} {v : V} {e : Expr} (h : PE X e (tC v)) (r : ∀ ρ H, RV T ρ H m v) : PE X e (TEof T W rt (conD m)) :=
  h.imp fun σ H Q ⟨ρ, env, mh, rh, rs, w⟩ => w v ρ H .refl rh (r ρ H)
theorem se_int {i : Int} {j : Nat} : PE X (.Constant (.int i) j pos) (TEof T W rt (conD (.int i))) := se_con pe_int fun _ _ => .int
theorem se_bl {i : Bool} {j : Nat} : PE X (.Constant (.bool i) j pos) (TEof T W rt (conD (.bl i))) := se_con pe_bl fun _ _ => .bl
theorem se_non {j : Nat} : PE X (.Constant .none j pos) (TEof T W rt (conD .non)) := se_con pe_non fun _ _ => .non
theorem se_str {x : Str} {j : Nat} : PE X (.Constant (.str x) j pos) (TEof T W rt (conD (.str x.cps.toList))) := se_con pe_str fun _ _ => by unfold RV; rw [S_eta]
theorem se_ty {x : Str} {n : Nat} (hg : Gl X x) (hm : X.mg x = none) (hv : bootBuiltins x = some (.type (tyN n))) (hn : x ≠ "__name__") (hd : (x == ("__debug__" : Str)) = false) : PE X (.Name x pos) (TEof T W rt (conD (.ty n))) :=
  se_con (pe_bltn (v := .ty (tyN n)) hg hm hv rfl hn hd) fun _ _ => by unfold RV; rfl
/-! ### tests -/
def boolD (d : DE) : DB := bnd d fun v _ _ mh => match v with
  | .bl b => .ok b mh
  | _ => .stuck
/-- a value's truth -/
def trM : MV → MH → Option Bool
  | .non, _ => some false
  | .bl b, _ => some b
  | .int i, _ => some (!decide (i = 0))
  | .str cs, _ => if Nat.ble cs.length lim then some (!cs.isEmpty) else none
  | .tup xs, _ => some (!xs.isEmpty)
  | .fl xs, _ => some (!xs.isEmpty)
  | .loc n, mh => match mh[n]? with
    | some (.lst xs) => some (!xs.isEmpty)
    | _ => none
  | _, _ => none
def truD (d : DE) : DB := bnd d fun v _ _ mh => match trM v mh with
  | some b => .ok b mh
  | none => .stuck
def andD (a b : DB) : DB := bnd a fun k => match k with
  | true => b
  | false => fun _ _ mh => .ok false mh
def orD (a b : DB) : DB := bnd a fun k => match k with
  | true => fun _ _ mh => .ok true mh
  | false => b
def notD (a : DB) : DB := bnd a fun k _ _ mh => .ok (!k) mh
/-- a test as a value -/
def valD (a : DB) : DE := bnd a fun k _ _ mh => .ok (.bl k) mh
def ifD (c : DB) (a b : DE) : DE := bnd c fun k => match k with
  | true => a
  | false => b
def andV (a : DE) (b : DE) : DE := bnd a fun v => match v with
  | .bl true => b
  | .bl false => fun _ _ mh => .ok (.bl false) mh
  | _ => fun _ _ _ => .stuck
def orV (a : DE) (b : DE) : DE := bnd a fun v => match v with
  | .bl false => b
  | .bl true => fun _ _ mh => .ok (.bl true) mh
  | _ => fun _ _ _ => .stuck
def notV (a : DE) : DE := bnd a fun v _ _ mh => match v with
  | .bl k => .ok (.bl (!k)) mh
  | _ => .stuck
theorem st_val {d : DE} (h : PE X e (TEof T W rt d)) (he : ∀ whole, isTrue e X.env whole = (do let v ← whole; standAt e.pos; holding [v] (truthy v))) : PT X e (TTof T W rt (boolD d)) :=
  (pt_val h he).imp fun σ H Q ⟨ρ, env, mh, rh, rs, w⟩ => (Want.bind rh rs w).mono fun x H1 ⟨ρ1, mh1, a, e1, rh1, rs1, ra, w1⟩ => by
    cases a <;> first | exact w1.elim | skip
    rename_i b
    unfold RV at ra; subst ra
    exact ⟨b, rfl, w1 b ρ1 H1 .refl rh1 rfl⟩
theorem RVs.emp {ρ : List Addr} {H : Hp} {xs : List MV} {vs : List V} (r : RVs T ρ H xs vs) : vs.isEmpty = xs.isEmpty := by
  cases xs with
  | nil => unfold RVs at r; subst r; rfl
  | cons x xs => unfold RVs at r; obtain ⟨v, r', rfl, _⟩ := r; rfl
theorem trM_ok {ρ : List Addr} {H : Hp} {mh : MH} {m : MV} {x : V} {b : Bool} (rh : RH T ρ mh H) (ra : RV T ρ H m x) (q : trM m mh = some b) : TruV T.K x H b := by
  unfold trM at q
  split at q
  · cases q; unfold RV at ra; subst ra; rfl
  · cases q; unfold RV at ra; subst ra; rfl
  · rename_i i
    cases q; unfold RV at ra; subst ra
    show (!decide (i = 0)) = (i != 0)
    cases hi : decide (i = 0) with
    | true => have := of_decide_eq_true hi; subst this; rfl
    | false => have := of_decide_eq_false hi; simp [this]
  · rename_i cs
    split at q
    · rename_i hz
      cases q; unfold RV at ra; subst ra
      refine ⟨by rw [S_len, ← lim_eq]; exact Nat.le_of_ble_eq_true hz, ?_⟩
      rw [S_len]
      cases cs with
      | nil => rfl
      | cons c cs => simp; omega
    · cases q
  · cases q; unfold RV at ra
    obtain ⟨p, vs, rfl, t1, r1⟩ := ra
    exact .inr (.inl ⟨vs, t1.sq, by rw [r1.emp]⟩)
  · cases q; unfold RV at ra
    obtain ⟨p, vs, rfl, t1, r1⟩ := ra
    exact .inl ⟨vs, t1.sq, by rw [r1.emp]⟩
  · split at q
    · cases q
      obtain ⟨p, vs, rfl, g1, h1, r1⟩ := loc_lst rh ra (by assumption)
      exact .inl ⟨vs, SqL.of h1, by rw [r1.emp]⟩
    · cases q
  · cases q
theorem st_tru {d : DE} (hK : X.K = T.K) (h : PE X e (TEof T W rt d)) (he : ∀ whole, isTrue e X.env whole = (do let v ← whole; standAt e.pos; holding [v] (truthy v))) : PT X e (TTof T W rt (truD d)) :=
  (pt_truth h he).imp fun σ H Q ⟨ρ, env, mh, rh, rs, w⟩ => (Want.bind rh rs w).mono fun x H1 ⟨ρ1, mh1, a, e1, rh1, rs1, ra, w1⟩ => by
    cases q : trM a mh1 with
    | none => rw [q] at w1; exact w1.elim
    | some b =>
      rw [q] at w1
      exact ⟨b, by rw [hK]; exact trM_ok rh1 ra q, w1 b ρ1 H1 .refl rh1 rfl⟩
theorem sw_and1 {a : Expr} {da : DB} (ha : PT X a (TTof T W rt da)) : PW X (.BoolOp .And [a] pos) (TTof T W rt da) := pw_and1 ha
theorem sw_or1 {a : Expr} {da : DB} (ha : PT X a (TTof T W rt da)) : PW X (.BoolOp .Or [a] pos) (TTof T W rt da) := pw_or1 ha
theorem sw_and {a b : Expr} {r : List Expr} {da db : DB} (ha : PT X a (TTof T W rt da)) (hb : PW X (.BoolOp .And (b :: r) pos) (TTof T W rt db)) : PW X (.BoolOp .And (a :: b :: r) pos) (TTof T W rt (andD da db)) :=
  (pw_and ha hb).imp fun σ H Q ⟨ρ, env, mh, rh, rs, w⟩ => (Want.bind (rel := fun _ _ a b => a = b) rh rs w).mono fun k H1 ⟨ρ1, mh1, k', e1, rh1, rs1, ra, w1⟩ => by
    subst ra
    cases k' with
    | true => exact iteT ⟨ρ1, env, mh1, rh1, rs1, w1⟩
    | false => exact iteF (w1 _ ρ1 H1 .refl rh1 rfl)
theorem sw_or {a b : Expr} {r : List Expr} {da db : DB} (ha : PT X a (TTof T W rt da)) (hb : PW X (.BoolOp .Or (b :: r) pos) (TTof T W rt db)) : PW X (.BoolOp .Or (a :: b :: r) pos) (TTof T W rt (orD da db)) :=
  (pw_or ha hb).imp fun σ H Q ⟨ρ, env, mh, rh, rs, w⟩ => (Want.bind (rel := fun _ _ a b => a = b) rh rs w).mono fun k H1 ⟨ρ1, mh1, k', e1, rh1, rs1, ra, w1⟩ => by
    subst ra
    cases k' with
    | true => exact iteT (w1 _ ρ1 H1 .refl rh1 rfl)
    | false => exact iteF ⟨ρ1, env, mh1, rh1, rs1, w1⟩
theorem st_not {a : Expr} {da : DB} (ha : PT X a (TTof T W rt da)) : PT X (.UnaryOp .Not a pos) (TTof T W rt (notD da)) :=
  (pt_not ha).imp fun σ H Q ⟨ρ, env, mh, rh, rs, w⟩ => (Want.bind (rel := fun _ _ a b => a = b) rh rs w).mono fun k H1 ⟨ρ1, mh1, k', e1, rh1, rs1, ra, w1⟩ => by
    subst ra
    exact w1 _ ρ1 H1 .refl rh1 rfl
theorem se_one {op : BoolOp} {a : Expr} {d : DE} (h : PE X a (TEof T W rt d)) : PE X (.BoolOp op [a] pos) (TEof T W rt d) := pe_one h
theorem se_and {a b : Expr} {r : List Expr} {da db : DE} (ha : PE X a (TEof T W rt da)) (hb : PE X (.BoolOp .And (b :: r) pos) (TEof T W rt db)) : PE X (.BoolOp .And (a :: b :: r) pos) (TEof T W rt (andV da db)) :=
  (pe_and ha hb).imp fun σ H Q ⟨ρ, env, mh, rh, rs, w⟩ => (Want.bind rh rs w).mono fun x H1 ⟨ρ1, mh1, a, e1, rh1, rs1, ra, w1⟩ => by
    cases a <;> first | exact w1.elim | skip
    rename_i k
    unfold RV at ra; subst ra
    refine ⟨k, rfl, ?_⟩
    cases k with
    | true => exact iteT ⟨ρ1, env, mh1, rh1, rs1, w1⟩
    | false => exact iteF (w1 _ ρ1 H1 .refl rh1 .bl)
theorem se_or {a b : Expr} {r : List Expr} {da db : DE} (ha : PE X a (TEof T W rt da)) (hb : PE X (.BoolOp .Or (b :: r) pos) (TEof T W rt db)) : PE X (.BoolOp .Or (a :: b :: r) pos) (TEof T W rt (orV da db)) :=
  (pe_or ha hb).imp fun σ H Q ⟨ρ, env, mh, rh, rs, w⟩ => (Want.bind rh rs w).mono fun x H1 ⟨ρ1, mh1, a, e1, rh1, rs1, ra, w1⟩ => by
    cases a <;> first | exact w1.elim | skip
    rename_i k
    unfold RV at ra; subst ra
    refine ⟨k, rfl, ?_⟩
    cases k with
    | true => exact iteT (w1 _ ρ1 H1 .refl rh1 .bl)
    | false => exact iteF ⟨ρ1, env, mh1, rh1, rs1, w1⟩
theorem se_not {a : Expr} {da : DE} (ha : PE X a (TEof T W rt da)) : PE X (.UnaryOp .Not a pos) (TEof T W rt (notV da)) :=
  (pe_not ha).imp fun σ H Q ⟨ρ, env, mh, rh, rs, w⟩ => (Want.bind rh rs w).mono fun x H1 ⟨ρ1, mh1, a, e1, rh1, rs1, ra, w1⟩ => by
    cases a <;> first | exact w1.elim | skip
    rename_i k
    unfold RV at ra; subst ra
    exact ⟨k, rfl, w1 _ ρ1 H1 .refl rh1 .bl⟩
theorem se_if {c a b : Expr} {dc : DB} {da db : DE} (hc : PT X c (TTof T W rt dc)) (ha : PE X a (TEof T W rt da)) (hb : PE X b (TEof T W rt db)) : PE X (.IfExp c a b pos) (TEof T W rt (ifD dc da db)) :=
  (pe_ifExp hc ha hb).imp fun σ H Q ⟨ρ, env, mh, rh, rs, w⟩ => (Want.bind (rel := fun _ _ a b => a = b) rh rs w).mono fun k H1 ⟨ρ1, mh1, k', e1, rh1, rs1, ra, w1⟩ => by
    subst ra
    cases k' with
    | true => exact iteT ⟨ρ1, env, mh1, rh1, rs1, w1⟩
    | false => exact iteF ⟨ρ1, env, mh1, rh1, rs1, w1⟩
/-! ### displays -/
def tupM : PN := fun as mh => if Nat.ble as.length lim then some (.tup as, mh) else none
def lstM : PN := fun as mh => if Nat.ble as.length lim then some (.loc mh.length, mh ++ [.lst as]) else none
theorem se_tup {es : List Expr} {k : Nat} {dl : DL} (h : PA X es (TAof T W rt dl)) : PE X (.Tuple es k pos) (TEof T W rt (opND tupM dl)) :=
  (pe_tup h).imp fun σ H Q ⟨ρ, env, mh, rh, rs, w⟩ => (Want.bind rh rs w).mono fun xs H1 ⟨ρ1, mh1, as, e1, rh1, rs1, ra, w1⟩ => by
    obtain ⟨m, mh2, hp, k⟩ := lft_want w1
    unfold tupM at hp
    split at hp
    · rename_i hz
      cases hp
      exact ⟨by rw [ra.len, ← lim_eq]; exact Nat.le_of_ble_eq_true hz, fun p hn => k.tup rh1 ra hn⟩
    · cases hp
theorem se_lst {es : List Expr} {dl : DL} (h : PA X es (TAof T W rt dl)) : PE X (.List es pos) (TEof T W rt (opND lstM dl)) :=
  (pe_lst h).imp fun σ H Q ⟨ρ, env, mh, rh, rs, w⟩ => (Want.bind rh rs w).mono fun xs H1 ⟨ρ1, mh1, as, e1, rh1, rs1, ra, w1⟩ => by
    obtain ⟨m, mh2, hp, k⟩ := lft_want w1
    unfold lstM at hp
    split at hp
    · rename_i hz
      cases hp
      exact ⟨by rw [ra.len, ← lim_eq]; exact Nat.le_of_ble_eq_true hz, fun p hn => k.lst rh1 ra hn⟩
    · cases hp
/-! ### targets -/
variable {P : St → St → Prop}
theorem sg_name {i : Nat} {x : Str} (o : NmOk N nm X) (hi : N[i]? = some x) (hx : isLoc nm x = true) (hP : ∀ σ v, P σ (σ.set i (some v))) : PG X (.Name x pos) (TGof T P rt (nameG i)) := by
  obtain ⟨l1, l2⟩ := o.loc hx
  refine ⟨fun pins s σ H v u Q I r ⟨ρ, env, mh, m, rh, rs, rv, w⟩ => ?_⟩
  exact (pg_name (by rw [o.N_]; exact o.nd) (by rw [o.N_]; exact hi) l1 l2).run pins s σ H v u Q I r (w _ ρ H (hP _ _) .refl rh (rs.set i rv))
theorem sgs_nil (hP : ∀ σ, P σ σ) : PGs X [] (TGsof T P rt nilG) := ⟨fun pins s σ H vs us Q I r ⟨ρ, env, mh, ms, rh, rs, rv, w⟩ => pgs_nil.run pins s σ H vs us Q I r (by
  cases ms with
  | nil =>
    unfold RVs at rv
    exact ⟨rv, w σ ρ H (hP σ) .refl rh rs⟩
  | cons m ms => exact w.elim)⟩
theorem sgs_cons {e : Expr} {es : List Expr} {g : DG} {t : DGs} (hP : ∀ a b c, P a b → P b c → P a c) (h1 : PG X e (TGof T P rt g)) (h2 : PGs X es (TGsof T P rt t)) (hs : (assignEach (e :: es) X.env).map (·.2) = assign e X.env :: (assignEach es X.env).map (·.2)) : PGs X (e :: es) (TGsof T P rt (consG g t)) :=
  ⟨fun pins s σ H vs us Q I r ⟨ρ, env, mh, ms, rh, rs, rv, w⟩ => (pgs_cons h1 h2 hs).run pins s σ H vs us Q I r (by
  cases ms with
  | nil => exact w.elim
  | cons m ms =>
    unfold RVs at rv
    obtain ⟨v, vr, rfl, r1, r2⟩ := rv
    refine ⟨v, vr, rfl, ρ, env, mh, m, rh, rs, r1, ?_⟩
    unfold consG at w
    cases q : g rt m env mh with
    | nx e h =>
      dsimp only at w
      rw [q] at w
      intro σ' ρ' H' p1 e' rh' rs'
      refine ⟨ρ', e, h, ms, rh', rs', r2.mono e', ?_⟩
      dsimp only at w
      cases q2 : t rt ms e h with
      | nx e2 h2 => rw [q2] at w; exact fun σ2 ρ2 H2 p2 x2 => w σ2 ρ2 H2 (hP _ _ _ p1 p2) (e'.trans x2 rh'.ne)
      | _ => rw [q2] at w; exact w.elim
    | _ => dsimp only at w; rw [q] at w; exact w.elim)⟩
theorem sg_tup {es : List Expr} {k n : Nat} {t : DGs} (hK : X.K = T.K) (hc : X.calm = true) (h : PGs X es (TGsof T P rt t)) (hn : (assignEach es X.env).length = n) (hst : (assignEach es X.env).findIdx? (·.1) = none) : PG X (.Tuple es k pos) (TGof T P rt (tupG n t)) :=
  ⟨fun pins s σ H v u Q I r ⟨ρ, env, mh, m, rh, rs, rv, w⟩ => (pg_tup hc h hn hst).run pins s σ H v u Q I r (by
  unfold tupG at w
  split at w
  · split at w
    · rename_i hl
      unfold RV at rv
      obtain ⟨a, vs, rfl, t1, r1⟩ := rv
      exact ⟨a, vs, rfl, by rw [hK]; exact t1.sq, by rw [r1.len]; exact Nat.eq_of_beq_eq_true hl, ρ, env, mh, _, rh, rs, r1, w⟩
    · exact w.elim
  · exact w.elim)⟩
theorem stIx_ok {ρ : List Addr} {H : Hp} {mh mh' : MH} {a b m : MV} {x y z : V} (rh : RH T ρ mh H) (ra : RV T ρ H a x) (rb : RV T ρ H b y) (rv : RV T ρ H m z) (q : stIx a b m mh = some mh') :
    ∃ p vs k j, x = .ref p ∧ y = .int k ∧ H p = some (.lst vs) ∧ ixN vs.length k = some j ∧ Ext ρ H ρ (upd H p (.lst (vs.set j z))) ∧ RH T ρ mh' (upd H p (.lst (vs.set j z))) := by
  unfold stIx at q
  split at q
  · rename_i n j
    split at q
    · rename_i xs ex
      split at q
      · rename_i hl
        cases q
        obtain ⟨p, vs, rfl, g1, h1, r1⟩ := loc_lst rh ra ex
        unfold RV at rb; subst rb
        have hl : j + 1 ≤ xs.length := Nat.le_of_ble_eq_true hl
        obtain ⟨e3, rh3⟩ := rh.put (ho := .lst (vs.set j z)) (o := .lst (xs.set j m)) g1 ⟨_, rfl, r1.set j rv⟩
        exact ⟨p, vs, _, j, rfl, rfl, h1, ixN_of (.inl ⟨Int.natCast_nonneg j, rfl, by rw [r1.len]; omega⟩), e3, rh3⟩
      · cases q
    · cases q
  · cases q
theorem sg_sub {o i : Expr} {d1 d2 : DE} (hP : ∀ σ, P σ σ) (ho : PE X o (TEof T W rt d1)) (hi : PE X i (TEof T W rt d2)) (ha : ∀ v, assign (.Subscript o i pos) X.env v = (do
      let ov ← holding [v] (eval o X.env)
      let iv ← holding [v, ov] (eval i X.env)
      standAt pos
      holding [v, ov, iv] (setItem ov iv v)
      release [v, ov, iv] [])) : PG X (.Subscript o i pos) (TGof T P rt (subG d1 d2)) :=
  ⟨fun pins s σ H v u Q I r ⟨ρ, env, mh, m, rh, rs, rv, w⟩ => (pg_sub ho hi set_list ha).run pins s σ H v u Q I r (by
  unfold subG at w
  refine ⟨ρ, env, mh, rh, rs, ?_⟩
  cases q1 : d1 rt env mh with
  | ok a mh1 =>
    rw [q1] at w
    intro x ρ1 H1 e1 rh1 ra
    refine ⟨ρ1, env, mh1, rh1, rs.mono e1, ?_⟩
    dsimp only at w
    cases q2 : d2 rt env mh1 with
    | ok b mh2 =>
      rw [q2] at w
      dsimp only at w
      intro y ρ2 H2 e2 rh2 rb
      have x2 := e1.trans e2 rh1.ne
      cases q3 : stIx a b m mh2 with
      | none => rw [q3] at w; exact w.elim
      | some mh3 =>
        rw [q3] at w
        obtain ⟨p, vs, k, j, rfl, rfl, h1, hj, e3, rh3⟩ := stIx_ok rh2 (ra.mono e2) rb ((rv.mono e1).mono e2) q3
        exact ⟨p, vs, k, j, rfl, rfl, h1, hj, w _ ρ2 _ (hP _) (x2.trans e3 rh2.ne) rh3 ((rs.mono x2).mono e3)⟩
    | exc x mh2 => rw [q2] at w; exact w.elim
    | stuck => rw [q2] at w; exact w.elim
  | exc x mh1 => rw [q1] at w; exact w.elim
  | stuck => rw [q1] at w; exact w.elim)⟩
/-! ### stores -/
theorem ss_set {i : Nat} {x : Str} {pos' : Pos} {d : DE} (o : NmOk N nm X) (hi : N[i]? = some x) (hx : isLoc nm x = true) (he : PE X e (TEof T W rt d)) (hs : swapsWith e (some (.Name x pos')) pos.line X.env = pure false) :
    PS X (.Assign [.Name x pos'] e pos) (TSof T W rt (setS i d)) := by
  obtain ⟨l1, l2⟩ := o.loc hx
  exact (ps_set (by rw [o.N_]; exact o.nd) (by rw [o.N_]; exact hi) l1 he hs l2).imp fun D σ H ⟨ρ, env, mh, rh, rs, w⟩ => (WantS.bind rh rs w).mono fun x H1 ⟨ρ1, mh1, a, e1, rh1, rs1, ra, w1⟩ => w1 _ ρ1 H1 .refl rh1 (rs1.set i ra)
theorem ss_asg {tg : Expr} {d : DE} {g : DG} (he : PE X e (TEof T W rt d)) (hg : PG X tg (TGof T AnyP rt g)) (hs : swapsWithSole [tg] e pos.line X.env = pure false) (hw : swappedStores [tg] e X.env = pure none)
    (h1 : (assignEach [tg] X.env).map (·.2) = [assign tg X.env]) (hn : ∀ rt v env mh, (∃ e h, g rt v env mh = .nx e h) ∨ g rt v env mh = .stuck) : PS X (.Assign [tg] e pos) (TSof T W rt (asgS d g)) :=
  (ps_asg he hg hs hw h1).imp fun D σ H ⟨ρ, env, mh, rh, rs, w⟩ => (WantS.bind rh rs w).mono fun x H1 ⟨ρ1, mh1, a, e1, rh1, rs1, ra, w1⟩ => by
    refine ⟨ρ1, env, mh1, a, rh1, rs1, ra, ?_⟩
    rcases hn rt a env mh1 with ⟨e, h, q⟩ | q
    · rw [q] at w1 ⊢; exact fun σ' ρ' H' _ => w1 σ' ρ' H'
    · rw [q] at w1; exact w1.elim
/-- a, b = x, y by plain names -/
def par2S (i j : Nat) (dl : DL) : DS := fun rt env mh => toS (dl rt env mh) env fun vs mh => match vs with
  | [v, w] => .nx ((env.set i (some v)).set j (some w)) mh
  | _ => .stuck
def par3S (i j l : Nat) (dl : DL) : DS := fun rt env mh => toS (dl rt env mh) env fun vs mh => match vs with
  | [u, v, w] => .nx (((env.set i (some u)).set j (some v)).set l (some w)) mh
  | _ => .stuck
theorem ss_par2 {i j : Nat} {x y : Str} {a b : Expr} {px py pt pt2 : Pos} {kt k2 : Nat} {dl : DL} (hc : X.calm = true) (o : NmOk N nm X) (hi : N[i]? = some x) (hj : N[j]? = some y) (hij : i ≠ j) (hx : nm.lookup x = some .local) (hy : nm.lookup y = some .local)
    (ha : PA X [a, b] (TAof T W rt dl)) (hw : swappedStores [.Tuple [.Name x px, .Name y py] kt pt] (.Tuple [a, b] k2 pt2) X.env = pure (some [x, y])) (hs : swapsWithSole [.Tuple [.Name x px, .Name y py] kt pt] (.Tuple [a, b] k2 pt2) pos.line X.env = pure false) :
    PS X (.Assign [.Tuple [.Name x px, .Name y py] kt pt] (.Tuple [a, b] k2 pt2) pos) (TSof T W rt (par2S i j dl)) :=
  (ps_par hc (by rw [o.N_]; exact o.nd) (by rw [o.N_]; exact hi) (by rw [o.N_]; exact hj) hij (o.lo x hx) (o.lo y hy) ha hw hs).imp fun D σ H ⟨ρ, env, mh, rh, rs, w⟩ => (WantS.bind (rel := RVs T) rh rs w).mono fun xs H1 ⟨ρ1, mh1, as, e1, rh1, rs1, ra, w1⟩ => by
    split at w1
    · obtain ⟨v, u, rfl, r1, r2⟩ := ra.two
      exact ⟨v, u, rfl, w1 _ ρ1 H1 .refl rh1 ((rs1.set i r1).set j r2)⟩
    · exact w1.elim
theorem ss_par3 {i j l : Nat} {x y z : Str} {a b c : Expr} {px py pz pt pt2 : Pos} {kt k2 : Nat} {dl : DL} (hc : X.calm = true) (o : NmOk N nm X) (hi : N[i]? = some x) (hj : N[j]? = some y) (hl : N[l]? = some z) (hij : i ≠ j) (hil : i ≠ l) (hjl : j ≠ l)
    (hx : nm.lookup x = some .local) (hy : nm.lookup y = some .local) (hz : nm.lookup z = some .local)
    (ha : PA X [a, b, c] (TAof T W rt dl)) (hw : swappedStores [.Tuple [.Name x px, .Name y py, .Name z pz] kt pt] (.Tuple [a, b, c] k2 pt2) X.env = pure (some [x, y, z])) (hs : swapsWithSole [.Tuple [.Name x px, .Name y py, .Name z pz] kt pt] (.Tuple [a, b, c] k2 pt2) pos.line X.env = pure false) :
    PS X (.Assign [.Tuple [.Name x px, .Name y py, .Name z pz] kt pt] (.Tuple [a, b, c] k2 pt2) pos) (TSof T W rt (par3S i j l dl)) :=
  (ps_par3 hc (by rw [o.N_]; exact o.nd) (by rw [o.N_]; exact hi) (by rw [o.N_]; exact hj) (by rw [o.N_]; exact hl) hij hil hjl (o.lo x hx) (o.lo y hy) (o.lo z hz) ha hw hs).imp fun D σ H ⟨ρ, env, mh, rh, rs, w⟩ => (WantS.bind (rel := RVs T) rh rs w).mono fun xs H1 ⟨ρ1, mh1, as, e1, rh1, rs1, ra, w1⟩ => by
    split at w1
    · unfold RVs at ra
      obtain ⟨v1, r, rfl, r1, ra⟩ := ra
      obtain ⟨v2, v3, rfl, r2, r3⟩ := ra.two
      exact ⟨v1, v2, v3, rfl, w1 _ ρ1 H1 .refl rh1 (((rs1.set i r1).set j r2).set l r3)⟩
    · exact w1.elim
end
end Vf
end L2
end
section
/-! VH: what loops walk; comprehensions. -/
namespace L2
namespace Vf
open PySem PySem.Spec PyProof.Rows
/-- whatever stands there: a list, a tuple, a text -/
def iAny (K : PySem.W.Frag) (te : TE) : TI := fun σ H R => te σ H fun x H1 => (∃ a, x = .ref a ∧ (((∃ xs, SqL K H1 a xs) ∧ R (Itl K a) H1) ∨ ((∃ xs, SqT K H1 a xs) ∧ R (Itt K a) H1))) ∨ ∃ z, x = .str z ∧ R (Its z) H1
theorem pi_any {X : Cx} {tg e : Expr} {te : TE} (he : PE X e te) : PI X tg e (iAny X.K te) := by
  refine ⟨fun pins s σ H R I h => thn (he.run pins s σ H _ I h) fun v s1 ⟨y, H1, I1, r1, q⟩ => ?_⟩
  rcases q with ⟨a, rfl, ⟨⟨xs, hq⟩, q⟩ | ⟨⟨xs, hq⟩, q⟩⟩ | ⟨z, rfl, q⟩
  · cases r1
    obtain ⟨its, rv, p, hz⟩ := I1.list hq
    exact wpAny_pyIter_list p.isList (pi_one (tk := s1.toks) I1 _ (turn_list a _) ⟨_, Heap.get?_push_size _ rfl, rfl, rfl⟩ q)
  · cases r1
    obtain ⟨its, rv, p, hz⟩ := I1.tuple hq
    exact wpAny_pyIter_tuple (show s1.heap.IsTuple a its.toArray from p) (pi_one (tk := s1.toks) I1 _ (turn_tuple a _) ⟨_, Heap.get?_push_size _ rfl, rfl, rfl⟩ q)
  · obtain ⟨t, rfl⟩ := r1
    cases ha : z.cps.all (· < 128)
    · exact wpAny_pyIter_wide ha (pi_one (tk := s1.toks) I1 _ (turn_str _ z t "str_iterator" (.inr rfl)) ⟨_, Heap.get?_push_size _ rfl, rfl, rfl⟩ q)
    · exact wpAny_pyIter_ascii ha (pi_one (tk := s1.toks) I1 _ (turn_str _ z t "str_ascii_iterator" (.inl rfl)) ⟨_, Heap.get?_push_size _ rfl, rfl, rfl⟩ q)
def nxtL (n : Nat) : Nxt := fun i mh => match mh[n]? with
  | some (.lst xs) => some xs[i]?
  | _ => none
def nxtX (xs : List MV) : Nxt := fun i _ => some xs[i]?
def nxtS (cs : List Nat) : Nxt := fun i _ => match cs[i]? with
  | some c => some (some (.str [c]))
  | none => some none
def nxtR (lo : Int) (n : Nat) : Nxt := fun i _ => if Nat.blt i n then some (some (.int (lo + i))) else some none
def anyI (d : DE) : DI := bnd d fun v _ _ mh => match v with
  | .loc n => match mh[n]? with
    | some (.lst _) => .ok (nxtL n) mh
    | _ => .stuck
  | .tup xs => .ok (nxtX xs) mh
  | .fl xs => .ok (nxtX xs) mh
  | .str cs => .ok (nxtS cs) mh
  | _ => .stuck
def inR (j : Int) : Bool := decide (-4611686018427387904 ≤ j) && decide (j < 4611686018427387904)
def rng1I (dl : DL) : DI := bnd dl fun as _ _ mh => match as with
  | [.int j] => if inR j then .ok (nxtR 0 j.toNat) mh else .stuck
  | _ => .stuck
def rng2I (dl : DL) : DI := bnd dl fun as _ _ mh => match as with
  | [.int i, .int j] => if inR i && inR j then .ok (nxtR i (j - i).toNat) mh else .stuck
  | _ => .stuck
/-- pairs with their places -/
def nxtE (nx : Nxt) : Nxt := fun i mh => match nx i mh with
  | some (some v) => some (some (.tup [.int i, v]))
  | r => r
def enumI (dl : DL) : DI := bnd dl fun as _ _ mh => match as with
  | [.loc n] => match mh[n]? with
    | some (.lst _) => .ok (nxtE (nxtL n)) mh
    | _ => .stuck
  | [.fl xs] => .ok (nxtE (nxtX xs)) mh
  | _ => .stuck
section
variable {T : Tx} {X : Cx} {W : WX} {rt : Rt} {ρ1 : List Addr} {H1 : Hp} {tg e : Expr} {pos : Pos}
theorem inR_ok {j : Int} (h : inR j = true) : -(2 ^ 62) ≤ j ∧ j < 2 ^ 62 := by
  have h := Bool.and_eq_true_iff.mp h
  have h1 := of_decide_eq_true h.1
  have h2 := of_decide_eq_true h.2
  omega
theorem sq_uniq {K : PySem.W.Frag} {a : Addr} {xs : List V} (h : H1 a = some (.lst xs)) {ys : List V} (q : ∀ xs, SqL K H1 a xs → ys = xs) : ys = xs := q xs (SqL.of h)
/-- own lists: the list at n stays one -/
theorem it_loc {n : Nat} {a : Addr} (hK : X.K = T.K) (g : ρ1[n]? = some a) : ItOk T ρ1 H1 (nxtL n) (Itl X.K a) := by
  intro i ρ H mh x rh
  unfold nxtL
  cases e : mh[n]? with
  | none => exact ⟨fun h => (by cases h), fun v h => (by cases h)⟩
  | some o =>
    cases o with
    | dct l => exact ⟨fun h => (by cases h), fun v h => (by cases h)⟩
    | lst xs =>
      obtain ⟨vs, e2, r⟩ := rh.ob n a _ (x.get g) e
      refine ⟨fun h => ?_, fun v h => ?_⟩
      · have h : xs[i]? = none := Option.some.inj h
        exact ⟨vs, SqL.of e2, by rw [r.len]; exact List.getElem?_eq_none_iff.mp h⟩
      · have h : xs[i]? = some v := Option.some.inj h
        obtain ⟨u, eu, ru⟩ := r.get h
        refine ⟨⟨vs, u, SqL.of e2, eu⟩, fun y H' ⟨hy, z⟩ => ?_⟩
        subst hy
        have ey : vs[i]? = some y := z vs (SqL.of e2)
        rw [eu] at ey
        cases ey
        exact ⟨.refl, rh, ru⟩
theorem it_tup {xs : List MV} {a : Addr} {vs : List V} (hK : X.K = T.K) (t : Tp T ρ1 H1 a vs) (r : RVs T ρ1 H1 xs vs) : ItOk T ρ1 H1 (nxtX xs) (Itt X.K a) := by
  intro i ρ H mh x rh
  have t := (t.im x.im).sq
  have r := r.mono x
  refine ⟨fun h => ?_, fun v h => ?_⟩
  · have h : xs[i]? = none := Option.some.inj h
    exact ⟨vs, by rw [hK]; exact t, by rw [r.len]; exact List.getElem?_eq_none_iff.mp h⟩
  · have h : xs[i]? = some v := Option.some.inj h
    obtain ⟨u, eu, ru⟩ := r.get h
    refine ⟨⟨vs, u, by rw [hK]; exact t, eu⟩, fun y H' ⟨hy, z⟩ => ?_⟩
    subst hy
    have ey : vs[i]? = some y := z vs (by rw [hK]; exact t)
    rw [eu] at ey
    cases ey
    exact ⟨.refl, rh, ru⟩
theorem it_fl {xs : List MV} {a : Addr} {vs : List V} (hK : X.K = T.K) (t : Fl T ρ1 H1 a vs) (r : RVs T ρ1 H1 xs vs) : ItOk T ρ1 H1 (nxtX xs) (Itl X.K a) := by
  intro i ρ H mh x rh
  have t := (t.im x.im).sq
  have r := r.mono x
  refine ⟨fun h => ?_, fun v h => ?_⟩
  · have h : xs[i]? = none := Option.some.inj h
    exact ⟨vs, by rw [hK]; exact t, by rw [r.len]; exact List.getElem?_eq_none_iff.mp h⟩
  · have h : xs[i]? = some v := Option.some.inj h
    obtain ⟨u, eu, ru⟩ := r.get h
    refine ⟨⟨vs, u, by rw [hK]; exact t, eu⟩, fun y H' ⟨hy, z⟩ => ?_⟩
    subst hy
    have ey : vs[i]? = some y := z vs (by rw [hK]; exact t)
    rw [eu] at ey
    cases ey
    exact ⟨.refl, rh, ru⟩
theorem it_str {cs : List Nat} : ItOk T ρ1 H1 (nxtS cs) (Its (S cs)) := by
  intro i ρ H mh x rh
  unfold nxtS
  have e0 : (S cs).cps[i]? = cs[i]? := by simp [S]
  have e1 : (S cs).cps.size = cs.length := by simp [S]
  cases e : cs[i]? with
  | none => exact ⟨fun _ => (by
      have := List.getElem?_eq_none_iff.mp e
      show (S cs).cps.size ≤ i
      rw [e1]; exact this), fun v h => (by cases h)⟩
  | some c =>
    refine ⟨fun h => (by cases h), fun v h => ?_⟩
    cases h
    refine ⟨(by show i < (S cs).cps.size; rw [e1]; exact (List.getElem?_eq_some_iff.mp e).1), fun y H' ⟨hy, c', ec, ey⟩ => ?_⟩
    subst hy
    rw [e0, e] at ec
    cases ec
    subst ey
    refine ⟨.refl, rh, ?_⟩
    unfold RV; rfl
theorem it_rng {lo : Int} {n : Nat} : ItOk T ρ1 H1 (nxtR lo n) (Itr lo n) := by
  intro i ρ H mh x rh
  unfold nxtR
  split
  · rename_i h
    have h : i + 1 ≤ n := Nat.le_of_ble_eq_true h
    refine ⟨fun h => (by cases h), fun v e => ?_⟩
    cases e
    refine ⟨h, fun y H' ⟨hy, ey⟩ => ?_⟩
    subst hy ey
    exact ⟨.refl, rh, .int⟩
  · rename_i h
    refine ⟨fun _ => ?_, fun v e => (by cases e)⟩
    have : ¬ i + 1 ≤ n := fun z => h (Nat.ble_eq_true_of_le z)
    show n ≤ i
    omega
theorem it_enum {nx : Nxt} {a : Addr} (ok : ItOk T ρ1 H1 nx (Itl X.K a)) : ItOk T ρ1 H1 (nxtE nx) (Ite X.K a) := by
  intro i ρ H mh x rh
  obtain ⟨o1, o2⟩ := ok i ρ H mh x rh
  unfold nxtE
  cases e : nx i mh with
  | none => exact ⟨fun h => (by cases h), fun v h => (by cases h)⟩
  | some r =>
    cases r with
    | none => exact ⟨fun _ => o1 e, fun v h => (by cases h)⟩
    | some u =>
      refine ⟨fun h => (by cases h), fun v h => ?_⟩
      cases h
      obtain ⟨g1, g2⟩ := o2 u e
      refine ⟨g1, fun y H' ⟨p, z, ey, hp, hH, hz⟩ => ?_⟩
      subst ey hH
      obtain ⟨_, _, ru⟩ := g2 z H ⟨rfl, hz⟩
      obtain ⟨x2, rh2⟩ := rh.new (o := .tup [.int (i : Nat), z]) hp
      refine ⟨x2, rh2, ?_⟩
      unfold RV
      exact ⟨p, _, rfl, .inl ⟨upd_same, rh.out hp⟩, (RVs.cons .int (RVs.cons ru .nil)).mono x2⟩
theorem si_any {d : DE} (hK : X.K = T.K) (he : PE X e (TEof T W rt d)) : PI X tg e (TIof T W rt (anyI d)) :=
  ⟨fun pins s σ H R I ⟨ρ, env, mh, rh, rs, w⟩ => (pi_any he).run pins s σ H R I ((Want.bind rh rs w).mono fun x H1 ⟨ρ1, mh1, a, e1, rh1, rs1, ra, w1⟩ => by
    split at w1
    · split at w1
      · rename_i en
        obtain ⟨p, vs, rfl, g, h1, r1⟩ := loc_lst rh1 ra en
        exact .inl ⟨p, rfl, .inl ⟨⟨vs, SqL.of h1⟩, w1 _ ρ1 H1 .refl rh1 (it_loc hK g)⟩⟩
      · exact w1.elim
    · unfold RV at ra
      obtain ⟨p, vs, rfl, t, r⟩ := ra
      exact .inl ⟨p, rfl, .inr ⟨⟨vs, by rw [hK]; exact t.sq⟩, w1 _ ρ1 H1 .refl rh1 (it_tup hK t r)⟩⟩
    · unfold RV at ra
      obtain ⟨p, vs, rfl, t, r⟩ := ra
      exact .inl ⟨p, rfl, .inl ⟨⟨vs, by rw [hK]; exact t.sq⟩, w1 _ ρ1 H1 .refl rh1 (it_fl hK t r)⟩⟩
    · unfold RV at ra
      subst ra
      exact .inr ⟨_, rfl, w1 _ ρ1 H1 .refl rh1 it_str⟩
    · exact w1.elim)⟩
theorem si_rng1 {a : Expr} {dl : DL} {p : Pos} (hg : Gl X "range") (hm : X.mg "range" = none) (ha : PA X [a] (TAof T W rt dl)) (hs : starEach [a] X.env = [(false, eval a X.env)]) : PI X tg (.Call (.Name "range" p) [a] [] pos) (TIof T W rt (rng1I dl)) :=
  ⟨fun pins s σ H R I ⟨ρ, env, mh, rh, rs, w⟩ => (pi_range1 hg hm ha hs).run pins s σ H R I ((Want.bind rh rs w).mono fun xs H1 ⟨ρ1, mh1, as, e1, rh1, rs1, ra, w1⟩ => by
    split at w1
    · split at w1
      · rename_i hj
        obtain ⟨v, rfl, r1⟩ := ra.one
        unfold RV at r1; subst r1
        obtain ⟨h1, h2⟩ := inR_ok hj
        exact ⟨_, rfl, h1, h2, w1 _ ρ1 H1 .refl rh1 it_rng⟩
      · exact w1.elim
    · exact w1.elim)⟩
theorem si_rng2 {a b : Expr} {dl : DL} {p : Pos} (hg : Gl X "range") (hm : X.mg "range" = none) (ha : PA X [a, b] (TAof T W rt dl)) (hs : starEach [a, b] X.env = [(false, eval a X.env), (false, eval b X.env)]) (hs2 : starEach [b] X.env = [(false, eval b X.env)]) :
    PI X tg (.Call (.Name "range" p) [a, b] [] pos) (TIof T W rt (rng2I dl)) :=
  ⟨fun pins s σ H R I ⟨ρ, env, mh, rh, rs, w⟩ => (pi_range2 hg hm ha hs hs2).run pins s σ H R I ((Want.bind rh rs w).mono fun xs H1 ⟨ρ1, mh1, as, e1, rh1, rs1, ra, w1⟩ => by
    split at w1
    · split at w1
      · rename_i hj
        have hj := Bool.and_eq_true_iff.mp hj
        obtain ⟨v, u, rfl, r1, r2⟩ := ra.two
        unfold RV at r1 r2; subst r1 r2
        obtain ⟨h1, h2⟩ := inR_ok hj.1
        obtain ⟨h3, h4⟩ := inR_ok hj.2
        exact ⟨_, _, rfl, ⟨h1, h2, h3, h4⟩, w1 _ ρ1 H1 .refl rh1 it_rng⟩
      · exact w1.elim
    · exact w1.elim)⟩
theorem si_enum {elts : List Expr} {kk : Nat} {tpos : Pos} {dl : DL} {p : Pos} (hK : X.K = T.K) (hg : Gl X "enumerate") (hm : X.mg "enumerate" = none) (ha : PA X [e] (TAof T W rt dl)) (hs : starEach [e] X.env = [(false, eval e X.env)]) :
    PI X (.Tuple elts kk tpos) (.Call (.Name "enumerate" p) [e] [] pos) (TIof T W rt (enumI dl)) :=
  ⟨fun pins s σ H R I ⟨ρ, env, mh, rh, rs, w⟩ => (pi_enum hg hm ha hs).run pins s σ H R I ((Want.bind rh rs w).mono fun xs H1 ⟨ρ1, mh1, as, e1, rh1, rs1, ra, w1⟩ => by
    split at w1
    · split at w1
      · rename_i en
        obtain ⟨v, rfl, r1⟩ := ra.one
        obtain ⟨p, vs, rfl, g, h1, r2⟩ := loc_lst rh1 r1 en
        exact ⟨p, vs, rfl, SqL.of h1, w1 _ ρ1 H1 .refl rh1 (it_enum (it_loc hK g))⟩
      · exact w1.elim
    · obtain ⟨v, rfl, r1⟩ := ra.one
      unfold RV at r1
      obtain ⟨p, vs, rfl, t, r⟩ := r1
      exact ⟨p, vs, rfl, by rw [hK]; exact t.sq, w1 _ ρ1 H1 .refl rh1 (it_enum (it_fl hK t r))⟩
    · exact w1.elim)⟩
/-! ### comprehensions -/
def wipeE (env : Env') : List Nat → Env'
  | [] => env
  | v :: vs => (wipeE env vs).set v none
theorem RSt.wipe_ {ρ : List Addr} {H : Hp} {env : Env'} {σ : St} (h : RSt T ρ H env σ) : ∀ vs : List Nat, RSt T ρ H (wipeE env vs) (L2.wipe σ vs)
  | [] => h
  | v :: vs => by
    have ih := RSt.wipe_ h vs
    unfold wipeE L2.wipe
    refine ⟨by simp [ih.len], fun j m q => ?_⟩
    by_cases hj : v = j
    · subst hj
      have hl : v < (wipeE env vs).length := by
        have := (List.getElem?_eq_some_iff.mp q).1
        rwa [List.length_set] at this
      rw [List.getElem?_set_self hl] at q
      cases q
    · rw [List.getElem?_set_ne hj] at q ⊢
      exact ih.at_ j m q
def lcL (nxt : Nxt) (g : DG) (tt : DB) (te : DE) (rt : Rt) (env : Env') : Nat → Nat → List MV → MH → Option (List MV × MH)
  | 0, _, _, _ => none
  | n + 1, i, acc, mh => match nxt i mh with
    | none => none
    | some none => some (acc.reverse, mh)
    | some (some v) => match g rt v env mh with
      | .nx e h => match tt rt e h with
        | .ok true h => match te rt e h with
          | .ok y h => if Nat.blt i lim then lcL nxt g tt te rt env n (i + 1) (y :: acc) h else none
          | _ => none
        | .ok false h => lcL nxt g tt te rt env n (i + 1) acc h
        | _ => none
      | _ => none
def lcD (di : DI) (own : List Nat) (g : DG) (tt : DB) (te : DE) : DE := bnd di fun nxt rt env mh => match lcL nxt g tt te rt (wipeE env own) rt.fuel 0 [] mh with
  | some (acc, h) => .ok (.loc h.length) (h ++ [.lst acc])
  | none => .stuck
def yesD : DB := fun _ _ mh => .ok true mh
theorem sts_nil : PTs X [] (TTof T W rt yesD) := ⟨fun pins s σ H Q I ⟨ρ, env, mh, rh, rs, w⟩ => pts_nil.run pins s σ H Q I (w true ρ H .refl rh rfl)⟩
theorem sts_one {c : Expr} {t : DB} (h : PT X c (TTof T W rt t)) : PTs X [c] (TTof T W rt t) := pts_one h
abbrev NoX : WX := fun _ _ _ _ => False
abbrev OwnP (own : List Nat) : St → St → Prop := fun σ σ' => L2.wipe σ' own = L2.wipe σ own
theorem wipe_get (σ : St) (i : Nat) : ∀ l : List Nat, (L2.wipe σ l)[i]? = if i ∈ l ∧ i < σ.length then some none else σ[i]?
  | [] => by simp [L2.wipe]
  | v :: l => by
    unfold L2.wipe
    by_cases h : v = i
    · subst h
      by_cases hl : v < σ.length
      · rw [List.getElem?_set_self (by rw [L2.wipe_length]; exact hl), if_pos ⟨List.mem_cons_self, hl⟩]
      · rw [List.getElem?_eq_none (by rw [List.length_set, L2.wipe_length]; omega), if_neg (fun z => hl z.2), List.getElem?_eq_none (by omega)]
    · rw [List.getElem?_set_ne h, wipe_get σ i l]
      simp only [List.mem_cons, Ne.symm h, false_or]
theorem wipe_wipe (σ : St) (l : List Nat) : L2.wipe (L2.wipe σ l) l = L2.wipe σ l := by
  apply List.ext_getElem?
  intro i
  rw [wipe_get, wipe_get, L2.wipe_length]
  split
  · rfl
  · rfl
theorem wipe_set (σ : St) (v : Option V) {i : Nat} {l : List Nat} (h : i ∈ l) : L2.wipe (σ.set i v) l = L2.wipe σ l := by
  apply List.ext_getElem?
  intro j
  rw [wipe_get, wipe_get, List.length_set]
  split
  · rfl
  · rename_i hn
    by_cases hj : i = j
    · subst hj
      have : ¬ i < σ.length := fun z => hn ⟨h, z⟩
      rw [List.getElem?_eq_none (by rw [List.length_set]; omega), List.getElem?_eq_none (by omega)]
    · rw [List.getElem?_set_ne hj]
theorem RH.adopt {ρ : List Addr} {mh : MH} {H : Hp} {D : Addr} {vs : List V} {o : MO} (rh : RH T ρ mh H) (hd : H D = some (.lst vs)) (nd : D ∉ ρ) (r : RO T ρ H o (some (.lst vs))) :
    Ims ρ H (ρ ++ [D]) H ∧ RH T (ρ ++ [D]) (mh ++ [o]) H ∧ (ρ ++ [D])[mh.length]? = some D := by
  have im : Ims ρ H (ρ ++ [D]) H := ⟨fun n a m => by rw [List.getElem?_append_left (List.getElem?_eq_some_iff.mp m).1]; exact m, fun a us h n => ⟨h, fun m => by
    rcases List.mem_append.mp m with m | m
    · exact n m
    · have e : a = D := by simpa using m
      subst e
      rw [hd] at h; cases h⟩, fun a ob u h n => ⟨h, fun m => by
    rcases List.mem_append.mp m with m | m
    · exact n m
    · have e : a = D := by simpa using m
      subst e
      rw [hd] at h; cases h⟩⟩
  have g : (ρ ++ [D])[mh.length]? = some D := by rw [← rh.len]; simp
  refine ⟨im, ⟨by simp [rh.len], ?_, fun n a u e1 e2 => ?_⟩, g⟩
  · rw [List.nodup_append]
    exact ⟨rh.nd, by simp, fun a m b mb => by simp at mb; rw [mb]; exact fun q => nd (by rw [← q]; exact m)⟩
  · by_cases hn : n < mh.length
    · rw [List.getElem?_append_left (by rw [rh.len]; exact hn)] at e1
      rw [List.getElem?_append_left hn] at e2
      exact (rh.ob n a u e1 e2).im im
    · have hl := (List.getElem?_eq_some_iff.mp e2).1
      rw [List.length_append, List.length_singleton] at hl
      have hn : n = mh.length := by omega
      subst hn
      rw [g] at e1
      cases e1
      simp at e2
      subst e2
      rw [hd]
      exact r.im im
theorem Ext.grow {ρ ρ' : List Addr} {H H' : Hp} {D : Addr} {o : HO} (e : Ext ρ H ρ' H') (hD : H D = none) : Ext ρ H ρ' (upd H' D o) :=
  ⟨e.pre, fun a u h n => by rw [upd_ne (ne_of_none h hD)]; exact e.keep a u h n⟩
theorem lc_of {di : DI} {own : List Nat} {g : DG} {tt : DB} {te : DE} {σ : St} {H : Hp} {Q : VK} (h : TEof T W rt (lcD di own g tt te) σ H Q) : tLc (TIof T W rt di) (TGof T (OwnP own) rt g) (TTof T NoX rt tt) (TEof T NoX rt te) own σ H Q := by
  obtain ⟨ρ0, env, mh0, rh0, rs0, w⟩ := h
  refine (Want.bind (rel := ItOk T) rh0 rs0 w).mono fun J H1 ⟨ρ1, mh1, nxt, e1, rh1, rs1, ok, w1⟩ => ?_
  intro D hD
  cases er : lcL nxt g tt te rt (wipeE env own) rt.fuel 0 [] mh1 with
  | none => rw [er] at w1; exact w1.elim
  | some r =>
    obtain ⟨racc, rmh⟩ := r
    rw [er] at w1
    have nD : D ∉ ρ1 := rh1.out hD
    refine ⟨fun i m H => ∃ ρ acc mh vs, Ext ρ1 H1 ρ H ∧ RH T ρ mh H ∧ H D = some (.lst vs) ∧ D ∉ ρ ∧ RVs T ρ H acc.reverse vs ∧ acc.length ≤ i ∧ lcL nxt g tt te rt (wipeE env own) m i acc mh = some (racc, rmh),
      ⟨rt.fuel, ρ1, [], mh1, [], .new hD nD, (rh1.new hD).2, upd_same, nD, .nil, Nat.le_refl _, er⟩, ?_⟩
    rintro i m H ⟨ρ, acc, mh, vs, x1, rh, hd, nd, ra, hl, hr⟩
    cases m with
    | zero => cases hr
    | succ n =>
      obtain ⟨o1, o2⟩ := ok i ρ H mh x1 rh
      unfold lcL at hr
      cases q : nxt i mh with
      | none => rw [q] at hr; cases hr
      | some r =>
        rw [q] at hr
        cases r with
        | none =>
          have hr := Option.some.inj hr
          obtain ⟨er1, er2⟩ := Prod.mk.inj hr
          refine .inl ⟨o1 q, ?_⟩
          obtain ⟨im, rh2, gD⟩ := rh.adopt (o := .lst acc.reverse) hd nd ⟨vs, rfl, ra⟩
          rw [← er1, ← er2] at w1
          obtain ⟨nw, pr, hn⟩ := x1.pre
          refine w1 (.ref D) (ρ ++ [D]) H ⟨⟨nw ++ [D], by rw [pr, List.append_assoc], fun a m => ?_⟩, x1.keep⟩ rh2 ?_
          · rcases List.mem_append.mp m with m | m
            · exact hn a m
            · have e : a = D := by simpa using m
              rw [e]; exact hD
          · unfold RV; exact ⟨D, rfl, gD⟩
        | some v =>
          obtain ⟨g1, g2⟩ := o2 v q
          dsimp only at hr
          refine .inr ⟨g1, fun H' => ∃ ρ acc mh vs, Ext ρ1 H1 ρ H' ∧ RH T ρ mh H' ∧ H' D = some (.lst vs) ∧ D ∉ ρ ∧ RVs T ρ H' acc.reverse vs ∧ acc.length ≤ i + 1 ∧ lcL nxt g tt te rt (wipeE env own) n (i + 1) acc mh = some (racc, rmh),
            fun H' h => ⟨n, Nat.lt_succ_self n, h⟩, fun x H' y => ?_⟩
          obtain ⟨x2, rh2, rv⟩ := g2 x H' y
          have x12 := x1.trans x2 rh.ne
          refine ⟨ρ, wipeE env own, mh, v, rh2, ((rs1.mono x12).wipe_ own), rv, ?_⟩
          have hd2 := x2.keep D _ hd nd
          have ra2 := ra.mono x2
          cases qg : g rt v (wipeE env own) mh with
          | nx e h =>
            rw [qg] at hr
            dsimp only at hr
            intro σ' ρ' H2 hP x3 rh3 rs3
            refine ⟨by rw [hP, wipe_wipe], ρ', e, h, rh3, rs3, ?_⟩
            have hd3 := x3.keep D _ hd2 nd
            have nd3 := x3.out hd2 nd
            have ra3 := ra2.mono x3
            have x13 := x12.trans x3 rh2.ne
            cases qt : tt rt e h with
            | ok b h2 =>
              rw [qt] at hr
              intro b' ρ4 H4 x4 rh4 eb
              subst eb
              have hd4 := x4.keep D _ hd3 nd3
              have nd4 := x4.out hd3 nd3
              have ra4 := ra3.mono x4
              have x14 := x13.trans x4 rh3.ne
              cases b with
              | false => exact iteF ⟨ρ4, acc, h2, vs, x14, rh4, hd4, nd4, ra4, by omega, hr⟩
              | true =>
                dsimp only at hr
                refine iteT ⟨ρ4, e, h2, rh4, rs3.mono x4, ?_⟩
                cases qe : te rt e h2 with
                | ok z h3 =>
                  rw [qe] at hr
                  dsimp only at hr
                  split at hr
                  · rename_i hi
                    have hi : i + 1 ≤ lim := Nat.le_of_ble_eq_true hi
                    intro yv ρ5 H5 x5 rh5 ry
                    have hd5 := x5.keep D _ hd4 nd4
                    have nd5 := x5.out hd4 nd4
                    have ra5 := ra4.mono x5
                    have hlen : vs.length = acc.length := by rw [ra5.len, List.length_reverse]
                    refine ⟨vs, hd5, by rw [hlen, ← lim_eq]; omega, ρ5, z :: acc, h3, vs ++ [yv], (x14.trans x5 rh4.ne).grow hD, rh5.grow hd5 nd5, upd_same, nd5, ?_, by rw [List.length_cons]; omega, hr⟩
                    rw [List.reverse_cons]
                    exact (ra5.append (.cons ry .nil)).im (Ims.grow hd5)
                  · cases hr
                | exc xx h3 => rw [qe] at hr; cases hr
                | stuck => rw [qe] at hr; cases hr
            | exc xx h2 => rw [qt] at hr; cases hr
            | stuck => rw [qt] at hr; cases hr
          | rt v2 h => rw [qg] at hr; cases hr
          | bk e h => rw [qg] at hr; cases hr
          | ct e h => rw [qg] at hr; cases hr
          | exc xx e h => rw [qg] at hr; cases hr
          | stuck => rw [qg] at hr; cases hr
end
end Vf
end L2
end
section
/-! VI: built-ins and methods. -/
namespace L2
namespace Vf
open PySem PySem.Spec PyProof.Rows
def lenM : MV → MH → Option Nat
  | .str cs, _ => if Nat.ble cs.length lim then some cs.length else none
  | .tup xs, _ => some xs.length
  | .fl xs, _ => some xs.length
  | .loc n, mh => match mh[n]? with
    | some (.lst xs) => some xs.length
    | _ => none
  | _, _ => none
def lenN : PN := fun as mh => match as with
  | [a] => match lenM a mh with
    | some n => some (.int n, mh)
    | none => none
  | _ => none
def absN : PN := fun as mh => match as with
  | [.int i] => some (.int (if i < 0 then -i else i), mh)
  | _ => none
def maxN : PN := fun as mh => match as with
  | [.int i, .int j] => some (.int (if j > i then j else i), mh)
  | _ => none
def minN : PN := fun as mh => match as with
  | [.int i, .int j] => some (.int (if j < i then j else i), mh)
  | _ => none
def intN : PN := fun as mh => match as with
  | [.int i] => some (.int i, mh)
  | [.bl k] => some (.int (if k then 1 else 0), mh)
  | _ => none
def divmodN : PN := fun as mh => match as with
  | [.int i, .int j] => if decide (0 < j) && decide (j < 1073741824) then some (.tup [.int (i / j), .int (i % j)], mh) else none
  | _ => none
/-- a value's class, among the built-in ones -/
def tyOfM : MV → MH → Option Nat
  | .non, _ => some 0
  | .bl _, _ => some 1
  | .int _, _ => some 2
  | .str _, _ => some 3
  | .fl _, _ => some 4
  | .tup _, _ => some 5
  | .loc n, mh => match mh[n]? with
    | some (.lst _) => some 4
    | some (.dct _) => some 6
    | none => none
  | _, _ => none
def kitB (a b : Nat) : Option Bool := if Nat.ble a 6 && (Nat.ble 1 b && Nat.ble b 6) then some (Nat.beq a b || (Nat.beq a 1 && Nat.beq b 2)) else none
def isiN : PN := fun as mh => match as with
  | [x, .ty n] => match tyOfM x mh with
    | some m => match kitB m n with
      | some r => some (.bl r, mh)
      | none => none
    | none => none
  | _ => none
def allB : List MV → Option Bool
  | [] => some true
  | .bl b :: r => match allB r with
    | some c => some (b && c)
    | none => none
  | _ :: _ => none
def anyB : List MV → Option Bool
  | [] => some false
  | .bl b :: r => match anyB r with
    | some c => some (b || c)
    | none => none
  | _ :: _ => none
def allN : PN := fun as mh => match as with
  | [.loc n] => match mh[n]? with
    | some (.lst xs) => match allB xs with
      | some b => some (.bl b, mh)
      | none => none
    | _ => none
  | _ => none
def anyN : PN := fun as mh => match as with
  | [.loc n] => match mh[n]? with
    | some (.lst xs) => match anyB xs with
      | some b => some (.bl b, mh)
      | none => none
    | _ => none
  | _ => none
def isRefM : MV → Bool
  | .tup _ => true
  | .loc _ => true
  | .fl _ => true
  | _ => false
def reprN : PN := fun as mh => match as with
  | [a] => if isRefM a then (match fz mh 60 a with
      | some d => if d.showable && (!d.hasDict && (Nat.ble d.depth 64 && Nat.ble d.shown.length lim)) then some (.str d.shown.cps.toList, mh) else none
      | none => none) else none
  | _ => none
def tupleN : PN := fun as mh => match as with
  | [.loc n] => match mh[n]? with
    | some (.lst xs) => some (.tup xs, mh)
    | _ => none
  | [.fl xs] => some (.tup xs, mh)
  | [.tup xs] => some (.tup xs, mh)
  | _ => none
def listN : PN := fun as mh => match as with
  | [.loc n] => match mh[n]? with
    | some (.lst xs) => some (.loc mh.length, mh ++ [.lst xs])
    | _ => none
  | [.fl xs] => some (.loc mh.length, mh ++ [.lst xs])
  | [.tup xs] => some (.loc mh.length, mh ++ [.lst xs])
  | _ => none
section
variable {T : Tx} {X : Cx} {W : WX} {rt : Rt} {pos p : Pos} {e : Expr} {es : List Expr}
theorem se_blt {id : String} {x : Str} {pn : PN} {dl : DL} (hc : CallR X (.builtin id) (RNof T pn)) (hg : Gl X x) (hm : X.mg x = none) (hv : bootBuiltins x = some (.builtin id)) (ha : PA X (e :: es) (TAof T W rt dl)) (hn : x ≠ "__name__") (hd : (x == ("__debug__" : Str)) = false)
    (he : starEach (e :: es) X.env = (false, eval e X.env) :: starEach es X.env) (hpl : (backTo pos (starEach es X.env)).any (·.1) = false) : PE X (.Call (.Name x p) (e :: es) [] pos) (TEof T W rt (opND pn dl)) :=
  (pe_callB hc hg hm hv ha hn hd he hpl).imp fun σ H Q ⟨ρ, env, mh, rh, rs, w⟩ => (Want.bind rh rs w).mono fun xs H1 ⟨ρ1, mh1, as, e1, rh1, rs1, ra, w1⟩ => by
    obtain ⟨m, mh2, hp, k⟩ := lft_want w1
    exact ⟨ρ1, as, mh1, m, mh2, rh1, ra, hp, k⟩
theorem se_bty {id : String} {x : Str} {pn : PN} {dl : DL} (hc : CallR X (.type id) (RNof T pn)) (hg : Gl X x) (hm : X.mg x = none) (hv : bootBuiltins x = some (.type id)) (ha : PA X (e :: es) (TAof T W rt dl)) (hn : x ≠ "__name__") (hd : (x == ("__debug__" : Str)) = false)
    (he : starEach (e :: es) X.env = (false, eval e X.env) :: starEach es X.env) (hpl : (backTo pos (starEach es X.env)).any (·.1) = false) : PE X (.Call (.Name x p) (e :: es) [] pos) (TEof T W rt (opND pn dl)) :=
  (pe_callTy hc hg hm hv ha hn hd he hpl).imp fun σ H Q ⟨ρ, env, mh, rh, rs, w⟩ => (Want.bind rh rs w).mono fun xs H1 ⟨ρ1, mh1, as, e1, rh1, rs1, ra, w1⟩ => by
    obtain ⟨m, mh2, hp, k⟩ := lft_want w1
    exact ⟨ρ1, as, mh1, m, mh2, rh1, ra, hp, k⟩
theorem len_ok (hK : X.K = T.K) : CallR X (.builtin "len") (RNof T lenN) := by
  intro pins s σ H xs us Q I rs ⟨ρ, as, mh, m, mh', rh, ra, hp, k⟩
  unfold lenN at hp
  split at hp
  · rename_i a
    split at hp
    · rename_i n en
      cases hp
      obtain ⟨x, rfl, r1⟩ := ra.one
      refine call_len pins s σ H _ us Q I rs ⟨x, n, rfl, ?_, k.pure rh .int⟩
      unfold lenM at en
      split at en
      · split at en
        · rename_i hz
          cases en; unfold RV at r1; subst r1
          exact ⟨by rw [S_len, ← lim_eq]; exact Nat.le_of_ble_eq_true hz, (S_len _).symm⟩
        · cases en
      · cases en; unfold RV at r1
        obtain ⟨p, vs, rfl, t, r⟩ := r1
        exact .inr ⟨vs, by rw [hK]; exact t.sq, r.len.symm⟩
      · cases en; unfold RV at r1
        obtain ⟨p, vs, rfl, t, r⟩ := r1
        exact .inl ⟨vs, by rw [hK]; exact t.sq, r.len.symm⟩
      · split at en
        · rename_i hn
          cases en
          obtain ⟨p, vs, rfl, g, h1, r⟩ := loc_lst rh r1 hn
          exact .inl ⟨vs, SqL.of h1, r.len.symm⟩
        · cases en
      · cases en
    · cases hp
  · cases hp
theorem abs_ok : CallR X (.builtin "abs") (RNof T absN) := by
  intro pins s σ H xs us Q I rs ⟨ρ, as, mh, m, mh', rh, ra, hp, k⟩
  unfold absN at hp
  split at hp
  · cases hp
    obtain ⟨x, rfl, r1⟩ := ra.one
    unfold RV at r1; subst r1
    exact call_abs pins s σ H _ us Q I rs ⟨_, rfl, k.pure rh .int⟩
  · cases hp
theorem max_ok (hc : X.calm = true) : CallR X (.builtin "max") (RNof T maxN) := by
  intro pins s σ H xs us Q I rs ⟨ρ, as, mh, m, mh', rh, ra, hp, k⟩
  unfold maxN at hp
  split at hp
  · cases hp
    obtain ⟨x, y, rfl, r1, r2⟩ := ra.two
    unfold RV at r1 r2; subst r1 r2
    exact call_max2 hc pins s σ H _ us Q I rs ⟨_, _, rfl, k.pure rh .int⟩
  · cases hp
theorem min_ok (hc : X.calm = true) : CallR X (.builtin "min") (RNof T minN) := by
  intro pins s σ H xs us Q I rs ⟨ρ, as, mh, m, mh', rh, ra, hp, k⟩
  unfold minN at hp
  split at hp
  · cases hp
    obtain ⟨x, y, rfl, r1, r2⟩ := ra.two
    unfold RV at r1 r2; subst r1 r2
    exact call_min2 hc pins s σ H _ us Q I rs ⟨_, _, rfl, k.pure rh .int⟩
  · cases hp
theorem int_ok : CallR X (.type "int") (RNof T intN) := by
  intro pins s σ H xs us Q I rs ⟨ρ, as, mh, m, mh', rh, ra, hp, k⟩
  unfold intN at hp
  split at hp
  · cases hp
    obtain ⟨x, rfl, r1⟩ := ra.one
    unfold RV at r1; subst r1
    exact call_int1 pins s σ H _ us Q I rs (.inl ⟨_, rfl, k.pure rh .int⟩)
  · cases hp
    obtain ⟨x, rfl, r1⟩ := ra.one
    unfold RV at r1; subst r1
    exact call_int1 pins s σ H _ us Q I rs (.inr ⟨_, rfl, k.pure rh .int⟩)
  · cases hp
theorem divmod_ok : CallR X (.builtin "divmod") (RNof T divmodN) := by
  intro pins s σ H xs us Q I rs ⟨ρ, as, mh, m, mh', rh, ra, hp, k⟩
  unfold divmodN at hp
  split at hp
  · split at hp
    · rename_i hc
      cases hp
      have hc := Bool.and_eq_true_iff.mp hc
      obtain ⟨x, y, rfl, r1, r2⟩ := ra.two
      unfold RV at r1 r2; subst r1 r2
      exact call_divmod pins s σ H _ us Q I rs ⟨_, _, rfl, ⟨of_decide_eq_true hc.1, of_decide_eq_true hc.2⟩, fun z hz => k.tup rh (.cons .int (.cons .int .nil)) hz⟩
    · cases hp
  · cases hp
theorem kit_ok {K : PySem.W.Frag} : ∀ {a b : Nat} {r : Bool}, kitB a b = some r → PySem.W.kitOne K (.type (tyN a)) (.type (tyN b)) = some r := by
  intro a b r h
  unfold kitB at h
  split at h
  · rename_i hc
    have hc := Bool.and_eq_true_iff.mp hc
    have hd := Bool.and_eq_true_iff.mp hc.2
    have h1 := Nat.le_of_ble_eq_true hc.1
    have h2 := Nat.le_of_ble_eq_true hd.1
    have h3 := Nat.le_of_ble_eq_true hd.2
    cases h
    have ha : a = 0 ∨ a = 1 ∨ a = 2 ∨ a = 3 ∨ a = 4 ∨ a = 5 ∨ a = 6 := by omega
    have hb : b = 1 ∨ b = 2 ∨ b = 3 ∨ b = 4 ∨ b = 5 ∨ b = 6 := by omega
    rcases ha with rfl | rfl | rfl | rfl | rfl | rfl | rfl <;> rcases hb with rfl | rfl | rfl | rfl | rfl | rfl <;> rfl
  · cases h
theorem tyOf_ok {ρ : List Addr} {H : Hp} {mh : MH} {m : MV} {x : V} {n : Nat} (rh : RH T ρ mh H) (r : RV T ρ H m x) (h : tyOfM m mh = some n) : TyX T.K H x (.type (tyN n)) := by
  unfold tyOfM at h
  split at h
  · cases h; unfold RV at r; subst r; exact .base .non
  · cases h; unfold RV at r; subst r; exact .base (.bl _)
  · cases h; unfold RV at r; subst r; exact .base (.int _)
  · cases h; unfold RV at r; subst r; exact .base (.str _)
  · cases h; unfold RV at r
    obtain ⟨p, vs, rfl, t, _⟩ := r
    rcases t with ⟨⟨o, t⟩, _⟩ | ⟨o, its, n, e1, e2, _⟩
    · exact .base (.frz t)
    · exact .kList e1 e2
  · cases h; unfold RV at r
    obtain ⟨p, vs, rfl, t, _⟩ := r
    rcases t with ⟨t, _⟩ | ⟨o, its, n, e1, e2, _⟩
    · exact .base (.tup t)
    · exact .kTuple e1 e2
  · split at h
    · rename_i en
      cases h
      obtain ⟨p, vs, rfl, g, h1, _⟩ := loc_lst rh r en
      exact .base (.lst h1)
    · rename_i en
      cases h
      unfold RV at r
      obtain ⟨a, rfl, h1⟩ := r
      obtain ⟨vs, e2, h2⟩ := rh.ob _ a _ h1 en
      exact .base (.dK e2)
    · cases h
  · cases h
theorem isi_ok (hK : X.K = T.K) : CallR X (.builtin "isinstance") (RNof T isiN) := by
  intro pins s σ H xs us Q I rs ⟨ρ, as, mh, m, mh', rh, ra, hp, k⟩
  unfold isiN at hp
  split at hp
  · rename_i a n
    split at hp
    · rename_i l el
      split at hp
      · rename_i r er
        cases hp
        obtain ⟨x, y, rfl, r1, r2⟩ := ra.two
        have ty := tyOf_ok rh r1 el
        unfold RV at r2; subst r2
        exact call_isi pins s σ H _ us Q I rs ⟨x, .ty (tyN n), .type (tyN l), .type (tyN n), r, rfl, .ty _, by rw [hK]; exact ty, kit_ok er, k.pure rh .bl⟩
      · cases hp
    · cases hp
  · cases hp
theorem allB_rel {ρ : List Addr} {H : Hp} : ∀ {xs : List MV} {vs : List V} {b : Bool}, RVs T ρ H xs vs → allB xs = some b → ∃ bs : List Bool, vs = bs.map V.bl ∧ bs.all id = b
  | [], vs, b, r, h => by unfold RVs at r; subst r; cases h; exact ⟨[], rfl, rfl⟩
  | x :: xs, vs, b, r, h => by
    unfold RVs at r
    obtain ⟨v, r', rfl, h1, h2⟩ := r
    unfold allB at h
    split at h
    · rename_i e; cases e
    · rename_i c rr e
      cases e
      split at h
      · rename_i d ed
        cases h
        obtain ⟨bs, rfl, e2⟩ := allB_rel h2 ed
        unfold RV at h1; subst h1
        exact ⟨c :: bs, rfl, by rw [List.all_cons, e2]; rfl⟩
      · cases h
    · cases h
theorem anyB_rel {ρ : List Addr} {H : Hp} : ∀ {xs : List MV} {vs : List V} {b : Bool}, RVs T ρ H xs vs → anyB xs = some b → ∃ bs : List Bool, vs = bs.map V.bl ∧ bs.any id = b
  | [], vs, b, r, h => by unfold RVs at r; subst r; cases h; exact ⟨[], rfl, rfl⟩
  | x :: xs, vs, b, r, h => by
    unfold RVs at r
    obtain ⟨v, r', rfl, h1, h2⟩ := r
    unfold anyB at h
    split at h
    · rename_i e; cases e
    · rename_i c rr e
      cases e
      split at h
      · rename_i d ed
        cases h
        obtain ⟨bs, rfl, e2⟩ := anyB_rel h2 ed
        unfold RV at h1; subst h1
        exact ⟨c :: bs, rfl, by rw [List.any_cons, e2]; rfl⟩
      · cases h
    · cases h
theorem all_ok (hc : X.calm = true) : CallR X (.builtin "all") (RNof T allN) := by
  intro pins s σ H xs us Q I rs ⟨ρ, as, mh, m, mh', rh, ra, hp, k⟩
  unfold allN at hp
  split at hp
  · split at hp
    · rename_i en
      split at hp
      · rename_i b eb
        cases hp
        obtain ⟨x, rfl, r1⟩ := ra.one
        obtain ⟨p, vs, rfl, g, h1, r⟩ := loc_lst rh r1 en
        obtain ⟨bs, rfl, e2⟩ := allB_rel r eb
        refine cr_all hc pins s σ H _ us Q I rs ⟨p, bs, rfl, SqL.of h1, ?_⟩
        rw [e2]
        exact k.pure rh .bl
      · cases hp
    · cases hp
  · cases hp
theorem any_ok (hc : X.calm = true) : CallR X (.builtin "any") (RNof T anyN) := by
  intro pins s σ H xs us Q I rs ⟨ρ, as, mh, m, mh', rh, ra, hp, k⟩
  unfold anyN at hp
  split at hp
  · split at hp
    · rename_i en
      split at hp
      · rename_i b eb
        cases hp
        obtain ⟨x, rfl, r1⟩ := ra.one
        obtain ⟨p, vs, rfl, g, h1, r⟩ := loc_lst rh r1 en
        obtain ⟨bs, rfl, e2⟩ := anyB_rel r eb
        refine cr_any hc pins s σ H _ us Q I rs ⟨p, bs, rfl, SqL.of h1, ?_⟩
        rw [e2]
        exact k.pure rh .bl
      · cases hp
    · cases hp
  · cases hp
theorem ref_of {ρ : List Addr} {H : Hp} {m : MV} {x : V} (r : RV T ρ H m x) (h : isRefM m = true) : ∃ a, x = .ref a := by
  cases m with
  | tup xs => unfold RV at r; obtain ⟨a, _, rfl, _⟩ := r; exact ⟨a, rfl⟩
  | fl xs => unfold RV at r; obtain ⟨a, _, rfl, _⟩ := r; exact ⟨a, rfl⟩
  | loc xs => unfold RV at r; obtain ⟨a, rfl, _⟩ := r; exact ⟨a, rfl⟩
  | _ => cases h
theorem repr_ok (hK : X.K = T.K) (hg : X.A.guards = some []) (hu : X.A.units + 200 < cLine) : CallR X (.builtin "repr") (RNof T reprN) := by
  intro pins s σ H xs us Q I rs ⟨ρ, as, mh, m, mh', rh, ra, hp, k⟩
  unfold reprN at hp
  split at hp
  · rename_i a
    split at hp
    · rename_i hr
      split at hp
      · rename_i d ed
        split at hp
        · rename_i hc
          cases hp
          have hc := Bool.and_eq_true_iff.mp hc
          have hd := Bool.and_eq_true_iff.mp hc.2
          have he := Bool.and_eq_true_iff.mp hd.2
          obtain ⟨x, rfl, r1⟩ := ra.one
          have dp := fz_dp rh r1 ed
          obtain ⟨b, rfl⟩ := ref_of r1 hr
          rw [Vals.ref1 rs]
          obtain ⟨bs, rd⟩ := Dp.reads I d (.ref b) (.ref b) (by rw [hK]; exact dp) rfl
          have hnd : d.hasDict = false := by simpa using hd.1
          refine repr_of_reads' rd hc.1 (PyData.noDict_hsm hnd) hg ?_ (fun _ _ h => h) (fun h' u tk kp => ?_) ?_
          · have := Nat.le_of_ble_eq_true he.1
            omega
          · refine ⟨.str d.shown, H, I.kept kp, ⟨u, rfl⟩, ?_⟩
            have := k.pure rh (RV.str (T := T) (ρ := ρ) (H := H) (i := d.shown.cps.toList))
            rw [S_eta] at this
            exact this
          · rw [← lim_eq]; exact Nat.le_of_ble_eq_true he.2
        · cases hp
      · cases hp
    · cases hp
  · cases hp
theorem tuple_ok (hK : X.K = T.K) : CallR X (.type "tuple") (RNof T tupleN) := by
  intro pins s σ H xs us Q I rs ⟨ρ, as, mh, m, mh', rh, ra, hp, k⟩
  unfold tupleN at hp
  split at hp
  · split at hp
    · rename_i en
      cases hp
      obtain ⟨x, rfl, r1⟩ := ra.one
      obtain ⟨p, vs, rfl, g, h1, r⟩ := loc_lst rh r1 en
      exact call_tuple_of pins s σ H _ us Q I rs ⟨p, vs, rfl, .inl ⟨SqL.of h1, fun z hz => k.tup rh r hz⟩⟩
    · cases hp
  · cases hp
    obtain ⟨x, rfl, r1⟩ := ra.one
    unfold RV at r1
    obtain ⟨p, vs, rfl, t, r⟩ := r1
    exact call_tuple_of pins s σ H _ us Q I rs ⟨p, vs, rfl, .inl ⟨by rw [hK]; exact t.sq, fun z hz => k.tup rh r hz⟩⟩
  · cases hp
    obtain ⟨x, rfl, r1⟩ := ra.one
    have r0 := r1
    unfold RV at r1
    obtain ⟨p, vs, rfl, t, r⟩ := r1
    exact call_tuple_of pins s σ H _ us Q I rs ⟨p, vs, rfl, .inr ⟨by rw [hK]; exact t.sq, k.pure rh r0⟩⟩
  · cases hp
theorem list_ok (hK : X.K = T.K) : CallR X (.type "list") (RNof T listN) := by
  intro pins s σ H xs us Q I rs ⟨ρ, as, mh, m, mh', rh, ra, hp, k⟩
  unfold listN at hp
  split at hp
  · split at hp
    · rename_i en
      cases hp
      obtain ⟨x, rfl, r1⟩ := ra.one
      obtain ⟨p, vs, rfl, g, h1, r⟩ := loc_lst rh r1 en
      exact call_list_of pins s σ H _ us Q I rs ⟨p, vs, rfl, .inl (SqL.of h1), fun z hz => k.lst rh r hz⟩
    · cases hp
  · cases hp
    obtain ⟨x, rfl, r1⟩ := ra.one
    unfold RV at r1
    obtain ⟨p, vs, rfl, t, r⟩ := r1
    exact call_list_of pins s σ H _ us Q I rs ⟨p, vs, rfl, .inl (by rw [hK]; exact t.sq), fun z hz => k.lst rh r hz⟩
  · cases hp
    obtain ⟨x, rfl, r1⟩ := ra.one
    unfold RV at r1
    obtain ⟨p, vs, rfl, t, r⟩ := r1
    exact call_list_of pins s σ H _ us Q I rs ⟨p, vs, rfl, .inr (by rw [hK]; exact t.sq), fun z hz => k.lst rh r hz⟩
  · cases hp
/-! ### methods -/
abbrev PM := MV → List MV → MH → Option (MV × MH)
def RMof (T : Tx) (p : PM) : V → List V → Hp → VK → Prop := fun x xs H Q => ∃ ρ a as mh m mh', RH T ρ mh H ∧ RV T ρ H a x ∧ RVs T ρ H as xs ∧ p a as mh = some (m, mh') ∧ Aft T ρ H m mh' Q
def isStrM : MV → MH → Bool
  | .str _, _ => true
  | _, _ => false
def isLstM : MV → MH → Bool
  | .fl _, _ => true
  | .loc n, mh => match mh[n]? with
    | some (.lst _) => true
    | _ => false
  | _, _ => false
def methD (ty : MV → MH → Bool) (p : PM) (d : DE) (dl : DL) : DE := bnd d fun a rt env mh => if ty a mh then bnd dl (fun as _ _ mh => lft (p a as mh)) rt env mh else .stuck
theorem str_ty {ρ : List Addr} {H : Hp} {mh : MH} {m : MV} {x : V} (K : PySem.W.Frag) (r : RV T ρ H m x) (h : isStrM m mh = true) : tyV K "str" x H := by
  unfold isStrM at h
  split at h
  · unfold RV at r; subst r; rfl
  · cases h
theorem lst_ty {ρ : List Addr} {H : Hp} {mh : MH} {m : MV} {x : V} (rh : RH T ρ mh H) (r : RV T ρ H m x) (h : isLstM m mh = true) : tyV T.K "list" x H := by
  unfold isLstM at h
  split at h
  · unfold RV at r
    obtain ⟨p, vs, rfl, t, _⟩ := r
    exact .inl ⟨rfl, vs, t.sq⟩
  · split at h
    · rename_i en
      obtain ⟨p, vs, rfl, g, h1, _⟩ := loc_lst rh r en
      exact .inl ⟨rfl, vs, SqL.of h1⟩
    · cases h
  · cases h
theorem se_meth {Ty id : String} {name : Str} {ty : MV → MH → Bool} {pm : PM} {o : Expr} {d : DE} {dl : DL} {apos : Pos} (pa : PlainAttrs Ty) (slot : Slot Ty name id) (hty : typeOf (.builtin id) = pure (.type "method_descriptor")) (hm : MtR X id (RMof T pm))
    (hv : ∀ ρ mh H m x, RH T ρ mh H → RV T ρ H m x → ty m mh = true → tyV X.K Ty x H) (ho : PE X o (TEof T W rt d)) (ha : PA X (e :: es) (TAof T W rt dl)) (hbase : attributeBase o name X.env (eval o X.env) = eval o X.env)
    (hfew : ((backTo pos (starEach (e :: es) X.env)).all (fun x => !x.1) && (backToKw pos (keywordEach [] X.env)).all (fun x => x.1.isSome)
      && decide ((e :: es).length + ([] : List Keyword).length + (if ([] : List Keyword).isEmpty then 0 else 1) < 30)) = true)
    (hline : (apos.endLine == pos.line) = true) (hs : starEach (e :: es) X.env = (false, eval e X.env) :: starEach es X.env) (hplain : (backTo pos (starEach es X.env)).any (·.1) = false) :
    PE X (.Call (.Attribute o name apos) (e :: es) [] pos) (TEof T W rt (methD ty pm d dl)) :=
  (pe_bm pa slot hty hm ho ha hbase hfew hline hs hplain).imp fun σ H Q ⟨ρ, env, mh, rh, rs, w⟩ => (Want.bind rh rs w).mono fun x H1 ⟨ρ1, mh1, a, e1, rh1, rs1, ra, w1⟩ => by
    split at w1
    · rename_i ht
      refine ⟨hv ρ1 mh1 H1 a x rh1 ra ht, (Want.bind (rel := RVs T) rh1 rs1 w1).mono fun xs H2 ⟨ρ2, mh2, as, e2, rh2, rs2, rb, w2⟩ => ?_⟩
      obtain ⟨m, mh3, hp, k⟩ := lft_want w2
      exact ⟨ρ2, a, as, mh2, m, mh3, rh2, ra.mono e2, rb, hp, k⟩
    · exact w1.elim
def appendM : PM := fun a as mh => match a, as with
  | .loc n, [v] => match mh[n]? with
    | some (.lst xs) => if Nat.blt xs.length lim then some (.non, mh.set n (.lst (xs ++ [v]))) else none
    | _ => none
  | _, _ => none
def strL (xs : List Str) : List MV := xs.map fun x => .str x.cps.toList
def splitM : PM := fun a as mh => match a, as with
  | .str z, [.str y] => if !y.isEmpty && Nat.ble (z.length + 2) lim then some (.loc mh.length, mh ++ [.lst (strL (Txt.split (S z) (S y)))]) else none
  | _, _ => none
def findM : PM := fun a as mh => match a, as with
  | .str z, [.str y] => some (.int (Txt.find (S z) (S y)), mh)
  | .str z, [.str y, .int i] => some (.int (Txt.find3 (S z) (S y) i), mh)
  | _, _ => none
theorem append_ok : MtR X "list.append" (RMof T appendM) := by
  intro pins s σ H x xs v us Q I rx rs ⟨ρ, a, as, mh, m, mh', rh, ra, rb, hp, k⟩
  unfold appendM at hp
  split at hp
  · split at hp
    · rename_i en
      split at hp
      · rename_i hz
        cases hp
        have hz : _ + 1 ≤ lim := Nat.le_of_ble_eq_true hz
        obtain ⟨p, vs, rfl, g, h1, r⟩ := loc_lst rh ra en
        obtain ⟨y, rfl, ry⟩ := rb.one
        obtain ⟨e3, rh3⟩ := rh.put (ho := .lst (vs ++ [y])) (o := .lst _) g ⟨_, rfl, r.append (.cons ry .nil)⟩
        exact mt_append pins s σ H _ _ v us Q I rx rs ⟨p, vs, y, rfl, rfl, h1, by rw [r.len, ← lim_eq]; omega, k _ ρ _ e3 rh3 .non⟩
      · cases hp
    · cases hp
  · cases hp
theorem RVs.strs {ρ : List Addr} {H : Hp} : ∀ (xs : List Str), RVs T ρ H (strL xs) (xs.map V.str)
  | [] => .nil
  | x :: xs => .cons (by unfold RV; rw [S_eta]) (RVs.strs xs)
theorem split_ok : MtR X "str.split" (RMof T splitM) := by
  intro pins s σ H x xs v us Q I rx rs ⟨ρ, a, as, mh, m, mh', rh, ra, rb, hp, k⟩
  unfold splitM at hp
  split at hp
  · rename_i z y
    split at hp
    · rename_i hc
      cases hp
      have hc := Bool.and_eq_true_iff.mp hc
      obtain ⟨u, rfl, ru⟩ := rb.one
      unfold RV at ra ru; subst ra ru
      refine mt_split pins s σ H _ _ v us Q I rx rs ⟨S z, S y, rfl, rfl, ?_, ?_, fun p hp => k.lst rh (.strs _) hp⟩
      · rw [S_len]
        cases y with
        | nil => exact absurd hc.1 (by decide)
        | cons c y => rfl
      · rw [S_len, ← lim_eq]; exact Nat.le_of_ble_eq_true hc.2
    · cases hp
  · cases hp
theorem find_ok : MtR X "str.find" (RMof T findM) := by
  intro pins s σ H x xs v us Q I rx rs ⟨ρ, a, as, mh, m, mh', rh, ra, rb, hp, k⟩
  unfold findM at hp
  split at hp
  · cases hp
    obtain ⟨u, rfl, ru⟩ := rb.one
    unfold RV at ra ru; subst ra ru
    exact mt_find pins s σ H _ _ v us Q I rx rs ⟨_, _, rfl, rfl, k.pure rh .int⟩
  · cases hp
    obtain ⟨u, w, rfl, ru, rw'⟩ := rb.two
    unfold RV at ra ru rw'; subst ra ru rw'
    exact mt_find3 pins s σ H _ _ v us Q I rx rs ⟨_, _, _, rfl, rfl, k.pure rh .int⟩
  · cases hp
end
end Vf
end L2
end
section
/-! VJ: the text's forms, looked at. -/
namespace L2
namespace Vf
open PySem PySem.Spec PyProof.Rows
def notStar : Expr → Bool
  | .Starred _ _ => false
  | _ => true
theorem star_cons {e : Expr} {es : List Expr} {env : Env} (h : notStar e = true) : starEach (e :: es) env = (false, eval e env) :: starEach es env := by
  cases e <;> first | rfl | cases h
def notStars : List Expr → Bool
  | [] => true
  | e :: es => notStar e && notStars es
theorem star_any {env : Env} {pos : Pos} : ∀ {es : List Expr}, notStars es = true → (backTo pos (starEach es env)).any (·.1) = false
  | [], _ => rfl
  | e :: es, h => by
    have h := Bool.and_eq_true_iff.mp h
    rw [star_cons h.1]
    show (false || (backTo pos (starEach es env)).any (·.1)) = false
    rw [star_any h.2]; rfl
theorem star_all {env : Env} {pos : Pos} : ∀ {es : List Expr}, notStars es = true → (backTo pos (starEach es env)).all (fun x => !x.1) = true
  | [], _ => rfl
  | e :: es, h => by
    have h := Bool.and_eq_true_iff.mp h
    rw [star_cons h.1]
    show (!false && (backTo pos (starEach es env)).all (fun x => !x.1)) = true
    rw [star_all h.2]; rfl
def plainBase : Expr → Bool
  | .Call (.Name _ _) [] [] _ => false
  | _ => true
theorem base_ok {o : Expr} {m : Str} {env : Env} {w : Sem Value} (h : plainBase o = true) : attributeBase o m env w = w := by
  unfold attributeBase
  split
  · cases h
  · rfl
def notSet : Expr → Bool
  | .Set _ _ _ => false
  | _ => true
theorem marks_ok {op : CmpOp} {b : Expr} (h : notSet b = true) : behindInMarks op b = false := by
  cases b <;> first | rfl | cases h
theorem folded_ok {e : Expr} {env : Env} (h : notSet e = true) : ∀ x, foldedSetIterable e env x = pure x := by
  cases e <;> first | (intro x; rfl) | cases h
def notSlice : Expr → Bool
  | .Slice _ _ _ _ => false
  | _ => true
theorem plainIx_ok {b : Expr} (h : notSlice b = true) : PlainIx b := by
  cases b <;> first | (intro o i; rfl) | cases h
def plainT : Expr → Bool
  | .Name _ _ => true
  | .Call _ _ _ _ => true
  | .Subscript _ _ _ => true
  | _ => false
theorem plainT_ok {e : Expr} {env : Env} (h : plainT e = true) : ∀ whole, isTrue e env whole = (do let v ← whole; standAt e.pos; holding [v] (truthy v)) := by
  cases e <;> first | (intro w; rfl) | cases h
theorem ae_cons {e : Expr} {es : List Expr} {env : Env} (h : notStar e = true) : (assignEach (e :: es) env).map (·.2) = assign e env :: (assignEach es env).map (·.2) := by
  cases e <;> first | rfl | cases h
theorem ae_len {env : Env} : ∀ {es : List Expr}, notStars es = true → (assignEach es env).length = es.length
  | [], _ => rfl
  | e :: es, h => by
    have h := Bool.and_eq_true_iff.mp h
    have := ae_len (env := env) h.2
    cases e <;> first
      | (show (assignEach es env).length + 1 = es.length + 1; rw [this])
      | cases h.1
theorem ae_star {env : Env} : ∀ {es : List Expr}, notStars es = true → (assignEach es env).findIdx? (·.1) = none
  | [], _ => rfl
  | e :: es, h => by
    have h := Bool.and_eq_true_iff.mp h
    have ih := ae_star (env := env) h.2
    have key : ∀ t : Value → Sem Unit, ((false, t) :: assignEach es env).findIdx? (·.1) = none := fun t => by
      rw [List.findIdx?_cons]
      simp [ih]
    cases e <;> first
      | exact key _
      | cases h.1
def kwNames : List Keyword → Option (List Str)
  | [] => some []
  | ⟨some n, _, _⟩ :: r => match kwNames r with
    | some l => some (n :: l)
    | none => none
  | _ :: _ => none
theorem kw_facts {env : Env} {pos : Pos} : ∀ {ks : List Keyword} {l : List Str}, kwNames ks = some l → (backToKw pos (keywordEach ks env)).all (·.1.isSome) = true ∧ (backToKw pos (keywordEach ks env)).filterMap (·.1) = l ∧ (backToKw pos (keywordEach ks env)).any (·.1.isNone) = false
  | [], l, h => by cases h; exact ⟨rfl, rfl, rfl⟩
  | ⟨some n, e, p⟩ :: r, l, h => by
    unfold kwNames at h
    split at h
    · rename_i l' e'
      cases h
      obtain ⟨h1, h2, h3⟩ := kw_facts (env := env) (pos := pos) e'
      refine ⟨?_, ?_, ?_⟩
      · show ((some n).isSome && (backToKw pos (keywordEach r env)).all (·.1.isSome)) = true
        rw [h1]; rfl
      · show n :: (backToKw pos (keywordEach r env)).filterMap (·.1) = n :: l'
        rw [h2]
      · show ((some n).isNone || (backToKw pos (keywordEach r env)).any (·.1.isNone)) = false
        rw [h3]; rfl
    · cases h
  | ⟨none, e, p⟩ :: r, l, h => by cases h
def notComp : Expr → Bool
  | .ListComp _ _ _ _ => false
  | .SetComp _ _ _ _ => false
  | .DictComp _ _ _ _ _ => false
  | _ => true
theorem swaps_ok {e : Expr} {t : Option Expr} {l : Nat} {env : Env} (h : notComp e = true) : swapsWith e t l env = pure false := by
  cases e <;> first | rfl | cases h
/-! ### comprehension blocks -/
theorem lookup_map {f : Str → NameKind → NameKind} : ∀ (l : List (Str × NameKind)) (x : Str), (l.map fun (n, k) => (n, f n k)).lookup x = (l.lookup x).map (f x)
  | [], _ => rfl
  | (n, k) :: r, x => by
    show List.lookup x ((n, f n k) :: r.map fun (n, k) => (n, f n k)) = _
    rw [List.lookup_cons, List.lookup_cons]
    cases e : x == n with
    | true =>
      have e : x = n := eq_of_beq e
      subst e; rfl
    | false => exact lookup_map r x
theorem relabel_lookup (scope : Scope) (env : Env) (x : Str) : (relabel scope env).names.lookup x = (scope.names.lookup x).map fun k => if (k == .free && env.scope.kind == .function && env.kindOf x == some .cell) then .cell else k := by
  rw [← lookup_map (f := fun n k => if (k == .free && env.scope.kind == .function && env.kindOf n == some .cell) then .cell else k)]
  unfold relabel
  congr 1
  apply List.map_congr_left
  rintro ⟨n, k⟩ _
  dsimp only
  split <;> rfl
theorem nm_blk {N : List Str} {nm : List (Str × NameKind)} {X : Cx} (o : NmOk N nm X) (s : Shared) (H : Hp) (scope : Scope) (C : Addr) (cl : List (Str × Addr)) (fp : List Addr) : NmOk N scope.names (X.blk s H scope (compEnvC scope cl C X.env) fp) := by
  have key : ∀ x k, scope.names.lookup x = some k → (X.blk s H scope (compEnvC scope cl C X.env) fp).env.scope.names.lookup x = some (if (k == .free && X.env.scope.kind == .function && X.env.kindOf x == some .cell) then .cell else k) := fun x k h => by
    show (relabel scope X.env).names.lookup x = _
    rw [relabel_lookup, h]; rfl
  refine ⟨o.N_, o.nd, fun x h => ?_, fun x h => ?_, fun x h => ?_, fun x h => ?_, fun x h => ?_⟩
  · rw [key x _ h]; rfl
  · rw [key x _ h]; rfl
  · rw [key x _ h]
    split
    · exact .inr rfl
    · exact .inl rfl
  · rw [key x _ h]; rfl
  · show (scope.names.lookup x == some .cell) = true
    rw [h]; rfl
/-- a block's own names with their places -/
def ixOf : List Str → Str → Nat → Option Nat
  | [], _, _ => none
  | n :: r, x, i => if n == x then some i else ixOf r x (i + 1)
theorem ixOf_ok : ∀ {N : List Str} {x : Str} {i j : Nat}, ixOf N x i = some j → i ≤ j ∧ N[j - i]? = some x
  | [], _, _, _, h => by cases h
  | n :: r, x, i, j, h => by
    unfold ixOf at h
    split at h
    · rename_i e
      cases h
      exact ⟨Nat.le_refl _, by simp [eq_of_beq e]⟩
    · obtain ⟨h1, h2⟩ := ixOf_ok h
      refine ⟨by omega, ?_⟩
      have : j - i = (j - (i + 1)) + 1 := by omega
      rw [this, List.getElem?_cons_succ]; exact h2
def ownOf (N : List Str) : List (Str × NameKind) → List (Str × Nat)
  | [] => []
  | (x, k) :: r => match k, ixOf N x 0 with
    | .local, some i => (x, i) :: ownOf N r
    | .cell, some i => (x, i) :: ownOf N r
    | _, _ => ownOf N r
def blkS (N : List Str) (nm : List (Str × NameKind)) (scope : Scope) (own : List (Str × Nat)) : Bool :=
  (match scope.kind with
    | .function => true
    | _ => false) && (scope.names.all (fun y => decide (scope.names.lookup y.1 = some y.2)) && (own.all (fun p => decide (N[p.2]? = some p.1)) &&
    scope.names.all (fun y => match y.2 with
      | .free => (match nm.lookup y.1 with
        | some .cell => true
        | some .free => true
        | _ => false)
      | .local => decide (y.1 ∈ own.map (·.1)) || decide (y.1 ∉ N)
      | .cell => decide (y.1 ∈ own.map (·.1)) || decide (y.1 ∉ N)
      | _ => true)))
theorem blkS_ok {N : List Str} {nm : List (Str × NameKind)} {X : Cx} {scope : Scope} {own : List (Str × Nat)} (o : NmOk N nm X) (h : blkS N nm scope own = true) : BlkOk X.N X.env.scope scope own := by
  have h := Bool.and_eq_true_iff.mp h
  have h2 := Bool.and_eq_true_iff.mp h.2
  have h3 := Bool.and_eq_true_iff.mp h2.2
  rw [o.N_]
  refine ⟨?_, fun y hy => of_decide_eq_true (List.all_eq_true.mp h2.1 y hy), fun p hp => of_decide_eq_true (List.all_eq_true.mp h3.1 p hp), fun y hy e => ?_, fun y hy e => ?_⟩
  · have q := h.1
    split at q
    · assumption
    · cases q
  · have q := List.all_eq_true.mp h3.2 y hy
    rw [e] at q
    dsimp only at q
    split at q
    · rename_i e2; exact .inl (o.ce _ e2)
    · rename_i e2; exact (o.fr _ e2).symm
    · cases q
  · have q := List.all_eq_true.mp h3.2 y hy
    rcases e with e | e
    · rw [e] at q
      exact (Bool.or_eq_true_iff.mp q).imp of_decide_eq_true of_decide_eq_true
    · rw [e] at q
      exact (Bool.or_eq_true_iff.mp q).imp of_decide_eq_true of_decide_eq_true
end Vf
end L2
end
section
/-! VK: from the text to denotations. -/
namespace L2
namespace Vf
open PySem PySem.Spec PyProof.Rows
/-- what is known of the names: the def's slots, the kinds here, the module's constants, its defs (by number, with their parameters, the keyword calls that are met), the built-ins that the module leaves as they are -/
structure Gm where
  N : List Str
  nm : List (Str × NameKind)
  gl : List (Str × MV)
  fs : List (Str × (Nat × List Str × List (Nat × List Str)))
  bn : List Str
structure OkX (Γ : Gm) (T : Tx) (rt : Rt) (W : WX) (X : Cx) : Prop where
  K : X.K = T.K
  nm : NmOk Γ.N Γ.nm X
  cm : X.calm = true
  gd : X.A.guards = some []
  un : X.A.units + 200 < cLine
  tk : Takes X W
  gl : ∀ x m, Γ.gl.lookup x = some m → ∃ v u, X.mg x = some u ∧ RelV v u ∧ ∀ ρ H, RV T ρ H m v
  bn : ∀ x, Γ.bn.contains x = true → X.mg x = none
  fs : ∀ x q, Γ.fs.lookup x = some q → FnR T rt X q.1 x q.2.1 q.2.2
def dbg : Str := "__debug__"
def cld : Str := "__classdict__"
def dnm : Str := "__name__"
/-- the built-in classes that are met as values -/
def tyIx (x : Str) : Option Nat := if x == ("bool" : Str) then some 1 else if x == ("int" : Str) then some 2 else if x == ("str" : Str) then some 3 else if x == ("list" : Str) then some 4 else if x == ("tuple" : Str) then some 5 else if x == ("dict" : Str) then some 6 else none
def cName (Γ : Gm) (x : Str) : Option DE := if x == dbg || x == cld then none else if isVis Γ.nm x then (match ixOf Γ.N x 0 with
    | some i => some (varD i)
    | none => none)
  else if isGlo Γ.nm x then (match Γ.gl.lookup x with
    | some m => some (conD m)
    | none => if Γ.bn.contains x then (match tyIx x with
      | some n => some (conD (.ty n))
      | none => none) else none)
  else none
def binP : Operator → Option P2
  | .Add => some addM
  | .Sub => some subM
  | .Mult => some mulM
  | .FloorDiv => some fdivM
  | .Mod => some modM
  | .Pow => some powM
  | _ => none
def cmpP : CmpOp → Option P2
  | .Eq => some eqM
  | .NotEq => some neM
  | .Lt => some ltM
  | .LtE => some leM
  | .Gt => some gtM
  | .GtE => some geM
  | .In => some inM
  | .NotIn => some notinM
  | .Is => some isM
  | .IsNot => some isnotM
/-- built-in functions, built-in classes called -/
def bltP (x : Str) : Option PN := if x == ("len" : Str) then some lenN else if x == ("abs" : Str) then some absN else if x == ("max" : Str) then some maxN else if x == ("min" : Str) then some minN else if x == ("divmod" : Str) then some divmodN
  else if x == ("isinstance" : Str) then some isiN else if x == ("all" : Str) then some allN else if x == ("any" : Str) then some anyN else if x == ("repr" : Str) then some reprN else none
def btyP (x : Str) : Option PN := if x == ("int" : Str) then some intN else if x == ("tuple" : Str) then some tupleN else if x == ("list" : Str) then some listN else none
/-- methods of built-in classes -/
def mthP (m : Str) : Option ((MV → MH → Bool) × PM) := if m == ("append" : Str) then some (isLstM, appendM) else if m == ("split" : Str) then some (isStrM, splitM) else if m == ("find" : Str) then some (isStrM, findM) else none
def cAf (f : Expr → Option DE) : List Expr → Option DL
  | [] => some nilD
  | e :: es => match f e, cAf f es with
    | some d, some t => if notStar e then some (consD d t) else none
    | _, _ => none
def cKf (f : Expr → Option DE) : List Keyword → Option DL
  | [] => some nilD
  | ⟨_, e, _⟩ :: es => match f e, cKf f es with
    | some d, some t => some (consD d t)
    | _, _ => none
def cOf (f : Expr → Option DE) : Option Expr → Option DO
  | none => some noPartD
  | some e => match f e with
    | some d => some (partD d)
    | none => none
def cBoV (f : Expr → Option DE) (k : DE → DE → DE) : List Expr → Option DE
  | [] => none
  | [e] => f e
  | e :: es => match f e, cBoV f k es with
    | some a, some b => some (k a b)
    | _, _ => none
def cBoT (f : Expr → Option DB) (k : DB → DB → DB) : List Expr → Option DB
  | [] => none
  | [e] => f e
  | e :: es => match f e, cBoT f k es with
    | some a, some b => some (k a b)
    | _, _ => none
/-- what a loop walks; tup: whether its target is a tuple -/
def cIf (Γ : Gm) (f : Expr → Option DE) (tup : Bool) (e : Expr) : Option DI := match e with
  | .Call (.Name x _) es [] _ =>
    if x == ("range" : Str) && (Γ.bn.contains x && isGlo Γ.nm x) then (match es, cAf f es with
      | [_], some dl => some (rng1I dl)
      | [_, _], some dl => some (rng2I dl)
      | _, _ => none)
    else if x == ("enumerate" : Str) && (Γ.bn.contains x && (isGlo Γ.nm x && tup)) then (match es, cAf f es with
      | [_], some dl => some (enumI dl)
      | _, _ => none)
    else (match f e with
      | some d => some (anyI d)
      | none => none)
  | e => if notSet e then (match f e with
    | some d => some (anyI d)
    | none => none) else none
/-- targets: names (ok: which slots) -/
def cGn (Γ : Gm) (ok : Nat → Bool) : Expr → Option DG
  | .Name x _ => if isLoc Γ.nm x then (match ixOf Γ.N x 0 with
    | some i => if ok i then some (nameG i) else none
    | none => none) else none
  | _ => none
def cGns (Γ : Gm) (ok : Nat → Bool) : List Expr → Option DGs
  | [] => some nilG
  | e :: es => match cGn Γ ok e, cGns Γ ok es with
    | some g, some t => some (consG g t)
    | _, _ => none
def cGt (Γ : Gm) (ok : Nat → Bool) : Expr → Option DG
  | .Tuple es _ _ => match cGns Γ ok es with
    | some t => some (tupG es.length t)
    | none => none
  | e => cGn Γ ok e
def isTup : Expr → Bool
  | .Tuple _ _ _ => true
  | _ => false
abbrev CE := Gm → Expr → Option DE
abbrev CT := Gm → Expr → Option DB
def cCall (Γ : Gm) (f : Expr → Option DE) (x : Str) (es : List Expr) (kws : List Keyword) : Option DE :=
  if x == dbg || x == dnm || !isGlo Γ.nm x || !notStars es then none else match Γ.fs.lookup x with
    | some (i, ps, ss) => (match kws, es with
      | [], _ :: _ => (match cAf f es with
        | some dl => some (callD i ps.length dl)
        | none => none)
      | _ :: _, [] => (match kwNames kws, cKf f kws with
        | some ks, some dk => if ss.contains (0, ks) then some (callKD i ps.length 0 (ps.drop 0) ks nilD dk) else none
        | _, _ => none)
      | _ :: _, _ :: _ => (match kwNames kws, cAf f es, cKf f kws with
        | some ks, some dl, some dk => if ss.contains (es.length, ks) then some (callKD i ps.length es.length (ps.drop es.length) ks dl dk) else none
        | _, _, _ => none)
      | _, _ => none)
    | none => if Γ.bn.contains x then (match kws, es with
      | [], _ :: _ => (match cAf f es with
        | some dl => (match bltP x with
          | some p => some (opND p dl)
          | none => (match btyP x with
            | some p => some (opND p dl)
            | none => none))
        | none => none)
      | _, _ => none) else none
def cMeth (f : Expr → Option DE) (o : Expr) (m : Str) (apos pos : Pos) (es : List Expr) : Option DE :=
  if plainBase o && (apos.endLine == pos.line && (notStars es && Nat.blt es.length 29)) then (match es with
    | [] => none
    | _ :: _ => (match f o, cAf f es, mthP m with
      | some d, some dl, some (ty, pm) => some (methD ty pm d dl)
      | _, _, _ => none)) else none
def stepE (ce : CE) (ct : CT) (Γ : Gm) (e : Expr) : Option DE := match e with
  | .Name x _ => cName Γ x
  | .Constant c _ _ => (match c with
    | .int i => some (conD (.int i))
    | .bool b => some (conD (.bl b))
    | .none => some (conD .non)
    | .str s => some (conD (.str s.cps.toList))
    | _ => none)
  | .BinOp a op b _ => (match binP op, ce Γ a, ce Γ b with
    | some p, some da, some db => some (op2D p da db)
    | _, _, _ => none)
  | .UnaryOp op a _ => (match op, ce Γ a with
    | .USub, some d => some (op1D negM d)
    | .Not, some d => some (notV d)
    | _, _ => none)
  | .BoolOp op es _ => (match op with
    | .And => cBoV (ce Γ) andV es
    | .Or => cBoV (ce Γ) orV es)
  | .Compare a ops bs _ => (match ops, bs with
    | [op], [b] => if notSet b then (match cmpP op, ce Γ a, ce Γ b with
      | some p, some da, some db => some (op2D p da db)
      | _, _, _ => none) else none
    | _, _ => none)
  | .IfExp c a b _ => (match ct Γ c, ce Γ a, ce Γ b with
    | some dc, some da, some db => some (ifD dc da db)
    | _, _, _ => none)
  | .Tuple es _ _ => (match cAf (ce Γ) es with
    | some dl => some (opND tupM dl)
    | none => none)
  | .List es _ => (match cAf (ce Γ) es with
    | some dl => some (opND lstM dl)
    | none => none)
  | .Subscript a b _ => (match b with
    | .Slice lo hi st _ => (match st, ce Γ a, cOf (ce Γ) lo, cOf (ce Γ) hi with
      | none, some d, some l, some h => some (sliceD d l h)
      | _, _, _, _ => none)
    | b => (match ce Γ a, ce Γ b with
      | some da, some db => some (op2D ixM da db)
      | _, _ => none))
  | .Call f es kws pos => (match f with
    | .Name x _ => cCall Γ (ce Γ) x es kws
    | .Attribute o m apos => (match kws with
      | [] => cMeth (ce Γ) o m apos pos es
      | _ => none)
    | _ => none)
  | .ListComp elt gs scope _ => (match gs with
    | [⟨tg, it, ifs, a⟩] => if a == 0 then (
        let own := ownOf Γ.N scope.names
        let Γ' : Gm := { Γ with nm := scope.names }
        if blkS Γ.N Γ.nm scope own && notSet it then (match cIf Γ (ce Γ) (isTup tg) it, cGt Γ' (fun i => (own.map (·.2)).contains i) tg, ce Γ' elt, (match ifs with
            | [] => some yesD
            | [c] => ct Γ' c
            | _ => none) with
          | some di, some dg, some de, some dt => some (lcD di (own.map (·.2)) dg dt de)
          | _, _, _, _ => none) else none) else none
    | _ => none)
  | _ => none
def stepT (ce : CE) (ct : CT) (Γ : Gm) (e : Expr) : Option DB := match e with
  | .BoolOp op es _ => (match op with
    | .And => cBoT (ct Γ) andD es
    | .Or => cBoT (ct Γ) orD es)
  | .UnaryOp op a _ => (match op, ct Γ a with
    | .Not, some d => some (notD d)
    | _, _ => none)
  | .Compare a ops bs _ => (match ops, bs with
    | [op], [b] => if notSet b then (match cmpP op, ce Γ a, ce Γ b with
      | some p, some da, some db => some (boolD (op2D p da db))
      | _, _, _ => none) else none
    | _, _ => none)
  | e => if plainT e then (match ce Γ e with
    | some d => some (truD d)
    | none => none) else none
mutual
def cE : Nat → CE
  | 0 => fun _ _ => none
  | n + 1 => stepE (cE n) (cT n)
def cT : Nat → CT
  | 0 => fun _ _ => none
  | n + 1 => stepT (cE n) (cT n)
end
end Vf
end L2
end
section
/-! VL: the expressions' denotations are right. -/
namespace L2
namespace Vf
open PySem PySem.Spec PyProof.Rows
def SoE (ce : CE) : Prop := ∀ Γ e d, ce Γ e = some d → ∀ T rt W X, OkX Γ T rt W X → PE X e (TEof T W rt d)
def SoT (ct : CT) : Prop := ∀ Γ e d, ct Γ e = some d → ∀ T rt W X, OkX Γ T rt W X → PT X e (TTof T W rt d)
section
variable {Γ : Gm} {T : Tx} {rt : Rt} {W : WX} {X : Cx} {f : Expr → Option DE} {g : Expr → Option DB}
theorem cAf_ok (h : ∀ e d, f e = some d → PE X e (TEof T W rt d)) : ∀ {es : List Expr} {dl : DL}, cAf f es = some dl → PA X es (TAof T W rt dl)
  | [], dl, e => by cases e; exact sa_nil
  | e :: es, dl, q => by
    unfold cAf at q
    split at q
    · rename_i d t ed et
      split at q
      · rename_i hs
        cases q
        exact sa_cons (h e d ed) (cAf_ok h et) (star_cons hs)
      · cases q
    · cases q
theorem sk_nil : PK X [] (TAof T W rt nilD) := ⟨fun pos pins s σ H Q I ⟨ρ, env, mh, rh, rs, w⟩ => pk_nil.run pos pins s σ H Q I (w [] ρ H .refl rh .nil)⟩
theorem sk_cons {nm : Option Str} {e : Expr} {kp : Pos} {kws : List Keyword} {d : DE} {t : DL} (ha : PE X e (TEof T W rt d)) (hr : PK X kws (TAof T W rt t)) : PK X (⟨nm, e, kp⟩ :: kws) (TAof T W rt (consD d t)) :=
  ⟨fun pos pins s σ H Q I ⟨ρ, env, mh, rh, rs, w⟩ => (pk_cons ha hr).run pos pins s σ H Q I ((Want.bind rh rs w).mono fun x H1 ⟨ρ1, mh1, a, e1, rh1, rs1, ra, w1⟩ => (Want.bind (rel := RVs T) rh1 rs1 w1).mono fun y H2 ⟨ρ2, mh2, b, e2, rh2, rs2, rb, w2⟩ =>
    w2 _ ρ2 H2 .refl rh2 (.cons (ra.mono e2) rb))⟩
theorem cKf_ok (h : ∀ e d, f e = some d → PE X e (TEof T W rt d)) : ∀ {es : List Keyword} {dl : DL}, cKf f es = some dl → PK X es (TAof T W rt dl)
  | [], dl, e => by cases e; exact sk_nil
  | ⟨n, e, p⟩ :: es, dl, q => by
    unfold cKf at q
    split at q
    · rename_i d t ed et
      cases q
      exact sk_cons (h e d ed) (cKf_ok h et)
    · cases q
theorem cOf_ok (h : ∀ e d, f e = some d → PE X e (TEof T W rt d)) {o : Option Expr} {d : DO} (q : cOf f o = some d) : PO X o (TOof T W rt d) := by
  unfold cOf at q
  split at q
  · cases q; exact so_none
  · split at q
    · rename_i ed
      cases q; exact so_some (h _ _ ed)
    · cases q
theorem cBoV_and (h : ∀ e d, f e = some d → PE X e (TEof T W rt d)) {pos : Pos} : ∀ {es : List Expr} {d : DE}, cBoV f andV es = some d → PE X (.BoolOp .And es pos) (TEof T W rt d)
  | [], d, q => by cases q
  | [e], d, q => se_one (h e d q)
  | e :: e2 :: es, d, q => by
    unfold cBoV at q
    split at q
    · rename_i a b ea eb
      cases q
      exact se_and (h e a ea) (cBoV_and h eb)
    · cases q
theorem cBoV_or (h : ∀ e d, f e = some d → PE X e (TEof T W rt d)) {pos : Pos} : ∀ {es : List Expr} {d : DE}, cBoV f orV es = some d → PE X (.BoolOp .Or es pos) (TEof T W rt d)
  | [], d, q => by cases q
  | [e], d, q => se_one (h e d q)
  | e :: e2 :: es, d, q => by
    unfold cBoV at q
    split at q
    · rename_i a b ea eb
      cases q
      exact se_or (h e a ea) (cBoV_or h eb)
    · cases q
theorem cBoT_and (h : ∀ e d, g e = some d → PT X e (TTof T W rt d)) {pos : Pos} : ∀ {es : List Expr} {d : DB}, cBoT g andD es = some d → PW X (.BoolOp .And es pos) (TTof T W rt d)
  | [], d, q => by cases q
  | [e], d, q => sw_and1 (h e d q)
  | e :: e2 :: es, d, q => by
    unfold cBoT at q
    split at q
    · rename_i a b ea eb
      cases q
      exact sw_and (h e a ea) (cBoT_and h eb)
    · cases q
theorem cBoT_or (h : ∀ e d, g e = some d → PT X e (TTof T W rt d)) {pos : Pos} : ∀ {es : List Expr} {d : DB}, cBoT g orD es = some d → PW X (.BoolOp .Or es pos) (TTof T W rt d)
  | [], d, q => by cases q
  | [e], d, q => sw_or1 (h e d q)
  | e :: e2 :: es, d, q => by
    unfold cBoT at q
    split at q
    · rename_i a b ea eb
      cases q
      exact sw_or (h e a ea) (cBoT_or h eb)
    · cases q
theorem str_eq {a b : Str} (h : (a == b) = true) : a = b := eq_of_beq h
theorem range_ne {x : Str} (h : x = "range") : True := trivial
theorem cIf_ok (o : OkX Γ T rt W X) (h : ∀ e d, f e = some d → PE X e (TEof T W rt d)) {tg e : Expr} {d : DI} (q : cIf Γ f (isTup tg) e = some d) : PI X tg e (TIof T W rt d) := by
  unfold cIf at q
  split at q
  · rename_i x px es pos
    split at q
    · rename_i hc
      have hc := Bool.and_eq_true_iff.mp hc
      have hd := Bool.and_eq_true_iff.mp hc.2
      have ex := str_eq hc.1
      subst ex
      split at q
      · rename_i a dl ea
        cases q
        have pa := cAf_ok h ea
        have hs : notStar a = true := by
          unfold cAf at ea
          split at ea
          · split at ea
            · assumption
            · cases ea
          · cases ea
        exact si_rng1 (o.nm.glo hd.2) (o.bn _ hd.1) pa (star_cons hs)
      · rename_i a b dl ea
        cases q
        have pa := cAf_ok h ea
        have hs : notStar a = true ∧ notStar b = true := by
          unfold cAf at ea
          split at ea
          · rename_i e2
            split at ea
            · rename_i e1
              unfold cAf at e2
              split at e2
              · split at e2
                · rename_i e3; exact ⟨e1, e3⟩
                · cases e2
              · cases e2
            · cases ea
          · cases ea
        exact si_rng2 (o.nm.glo hd.2) (o.bn _ hd.1) pa (by rw [star_cons hs.1, star_cons hs.2]; rfl) (star_cons hs.2)
      · cases q
    · split at q
      · rename_i hc
        have hc := Bool.and_eq_true_iff.mp hc
        have hd := Bool.and_eq_true_iff.mp hc.2
        have he := Bool.and_eq_true_iff.mp hd.2
        have ex := str_eq hc.1
        subst ex
        split at q
        · rename_i a dl ea
          cases q
          have pa := cAf_ok h ea
          have hs : notStar a = true := by
            unfold cAf at ea
            split at ea
            · split at ea
              · assumption
              · cases ea
            · cases ea
          have ht := he.2
          cases tg <;> first | cases ht | skip
          exact si_enum o.K (o.nm.glo he.1) (o.bn _ hd.1) pa (star_cons hs)
        · cases q
      · split at q
        · rename_i ed
          cases q
          exact si_any o.K (h _ _ ed)
        · cases q
  · split at q
    · split at q
      · rename_i ed
        cases q
        exact si_any o.K (h _ _ ed)
      · cases q
    · cases q
theorem ix0 {N : List Str} {x : Str} {i : Nat} (h : ixOf N x 0 = some i) : N[i]? = some x := by
  have := (ixOf_ok h).2
  rwa [Nat.sub_zero] at this
variable {P : L2.St → L2.St → Prop} {ok : Nat → Bool}
theorem cGn_ok (o : NmOk Γ.N Γ.nm X) (hP : ∀ i σ v, ok i = true → P σ (σ.set i (some v))) {tg : Expr} {d : DG} (q : cGn Γ ok tg = some d) : PG X tg (TGof T P rt d) ∧ notStar tg = true := by
  unfold cGn at q
  split at q
  · split at q
    · rename_i hx
      split at q
      · rename_i i ei
        split at q
        · rename_i hi
          cases q
          exact ⟨sg_name o (ix0 ei) hx (fun σ v => hP i σ v hi), rfl⟩
        · cases q
      · cases q
    · cases q
  · cases q
theorem cGns_ok (o : NmOk Γ.N Γ.nm X) (hP : ∀ i σ v, ok i = true → P σ (σ.set i (some v))) (h0 : ∀ σ, P σ σ) (h2 : ∀ a b c, P a b → P b c → P a c) : ∀ {es : List Expr} {d : DGs}, cGns Γ ok es = some d → PGs X es (TGsof T P rt d) ∧ notStars es = true
  | [], d, q => by cases q; exact ⟨sgs_nil h0, rfl⟩
  | e :: es, d, q => by
    unfold cGns at q
    split at q
    · rename_i g1 t1 eg et
      cases q
      obtain ⟨p1, s1⟩ := cGn_ok (T := T) (rt := rt) o hP eg
      obtain ⟨p2, s2⟩ := cGns_ok o hP h0 h2 et
      exact ⟨sgs_cons h2 p1 p2 (ae_cons s1), by unfold notStars; rw [s1, s2]; rfl⟩
    · cases q
theorem cGt_ok (hK : X.K = T.K) (hc : X.calm = true) (o : NmOk Γ.N Γ.nm X) (hP : ∀ i σ v, ok i = true → P σ (σ.set i (some v))) (h0 : ∀ σ, P σ σ) (h2 : ∀ a b c, P a b → P b c → P a c) {tg : Expr} {d : DG} (q : cGt Γ ok tg = some d) : PG X tg (TGof T P rt d) := by
  unfold cGt at q
  split at q
  · split at q
    · rename_i et
      cases q
      obtain ⟨p2, s2⟩ := cGns_ok (T := T) (rt := rt) o hP h0 h2 et
      exact sg_tup hK hc p2 (ae_len s2) (ae_star s2)
    · cases q
  · exact (cGn_ok o hP q).1
theorem ne_dnm {x : Str} (h : (x == dnm) = false) : x ≠ "__name__" := fun e => by
  subst e
  rw [show (("__name__" : Str) == dnm) = true from beq_self_eq_true _] at h
  cases h
theorem cCall_ok (o : OkX Γ T rt W X) (h : ∀ e d, f e = some d → PE X e (TEof T W rt d)) {x : Str} {px pos : Pos} {es : List Expr} {kws : List Keyword} {d : DE} (q : cCall Γ f x es kws = some d) : PE X (.Call (.Name x px) es kws pos) (TEof T W rt d) := by
  unfold cCall at q
  split at q
  · cases q
  · rename_i hc
    have hc : (x == dbg || x == dnm || !isGlo Γ.nm x || !notStars es) = false := Bool.eq_false_iff.mpr hc
    have h1 := Bool.or_eq_false_iff.mp hc
    have h2 := Bool.or_eq_false_iff.mp h1.1
    have h3 := Bool.or_eq_false_iff.mp h2.1
    have hg : isGlo Γ.nm x = true := by simpa using h2.2
    have hs : notStars es = true := by simpa using h1.2
    have hd : (x == ("__debug__" : Str)) = false := h3.1
    split at q
    · rename_i i ps ss ef
      have F := o.fs x _ ef
      split at q
      · rename_i e es'
        split at q
        · rename_i dl ed
          cases q
          have hs := Bool.and_eq_true_iff.mp hs
          exact se_call o.gd o.tk F (o.nm.glo hg) (cAf_ok h ed) hd (star_cons hs.1) (star_any hs.2)
        · cases q
      · split at q
        · rename_i ks dk ek ed
          split at q
          · rename_i hm
            cases q
            obtain ⟨k1, k2, k3⟩ := kw_facts (env := X.env) (pos := pos) ek
            exact se_callK0 o.gd o.tk F (by simpa using hm) (o.nm.glo hg) (cKf_ok h ed) hd k1 k2 (by rw [k3]; rfl)
          · cases q
        · cases q
      · rename_i k ks' e es'
        split at q
        · rename_i ks dl dk ek ed edk
          split at q
          · rename_i hm
            cases q
            obtain ⟨k1, k2, k3⟩ := kw_facts (env := X.env) (pos := pos) ek
            have hs2 := Bool.and_eq_true_iff.mp hs
            exact se_callK o.gd o.tk F (by simpa using hm) (o.nm.glo hg) (cAf_ok h ed) (cKf_ok h edk) hd (star_cons hs2.1) k1 k2 (by rw [star_any hs, k3]; rfl)
          · cases q
        · cases q
      · cases q
    · split at q
      · rename_i hb
        have hm := o.bn x hb
        split at q
        · rename_i e es'
          have hs := Bool.and_eq_true_iff.mp hs
          split at q
          · rename_i dl ed
            have pa := cAf_ok h ed
            split at q
            · rename_i p ep
              cases q
              unfold bltP at ep
              have hu := o.un
              split at ep
              · rename_i en; cases ep; have en := str_eq en; subst en
                exact se_blt (len_ok o.K) (o.nm.glo hg) hm boot_len pa (by decide) hd (star_cons hs.1) (star_any hs.2)
              split at ep
              · rename_i en; cases ep; have en := str_eq en; subst en
                exact se_blt abs_ok (o.nm.glo hg) hm boot_abs pa (by decide) hd (star_cons hs.1) (star_any hs.2)
              split at ep
              · rename_i en; cases ep; have en := str_eq en; subst en
                exact se_blt (max_ok o.cm) (o.nm.glo hg) hm boot_max pa (by decide) hd (star_cons hs.1) (star_any hs.2)
              split at ep
              · rename_i en; cases ep; have en := str_eq en; subst en
                exact se_blt (min_ok o.cm) (o.nm.glo hg) hm boot_min pa (by decide) hd (star_cons hs.1) (star_any hs.2)
              split at ep
              · rename_i en; cases ep; have en := str_eq en; subst en
                exact se_blt divmod_ok (o.nm.glo hg) hm boot_divmod pa (by decide) hd (star_cons hs.1) (star_any hs.2)
              split at ep
              · rename_i en; cases ep; have en := str_eq en; subst en
                exact se_blt (isi_ok o.K) (o.nm.glo hg) hm boot_isinstance pa (by decide) hd (star_cons hs.1) (star_any hs.2)
              split at ep
              · rename_i en; cases ep; have en := str_eq en; subst en
                exact se_blt (all_ok o.cm) (o.nm.glo hg) hm boot_all pa (by decide) hd (star_cons hs.1) (star_any hs.2)
              split at ep
              · rename_i en; cases ep; have en := str_eq en; subst en
                exact se_blt (any_ok o.cm) (o.nm.glo hg) hm boot_any pa (by decide) hd (star_cons hs.1) (star_any hs.2)
              split at ep
              · rename_i en; cases ep; have en := str_eq en; subst en
                exact se_blt (repr_ok o.K o.gd hu) (o.nm.glo hg) hm boot_repr pa (by decide) hd (star_cons hs.1) (star_any hs.2)
              · cases ep
            · split at q
              · rename_i p ep
                cases q
                unfold btyP at ep
                split at ep
                · rename_i en; cases ep; have en := str_eq en; subst en
                  exact se_bty int_ok (o.nm.glo hg) hm PyProof.Rows.boot_int pa (by decide) hd (star_cons hs.1) (star_any hs.2)
                split at ep
                · rename_i en; cases ep; have en := str_eq en; subst en
                  exact se_bty (tuple_ok o.K) (o.nm.glo hg) hm PyProof.Rows.boot_tuple pa (by decide) hd (star_cons hs.1) (star_any hs.2)
                split at ep
                · rename_i en; cases ep; have en := str_eq en; subst en
                  exact se_bty (list_ok o.K) (o.nm.glo hg) hm PyProof.Rows.boot_list pa (by decide) hd (star_cons hs.1) (star_any hs.2)
                · cases ep
              · cases q
          · cases q
        · cases q
      · cases q
theorem cMeth_ok (o : OkX Γ T rt W X) (h : ∀ e d, f e = some d → PE X e (TEof T W rt d)) {ob : Expr} {m : Str} {apos pos : Pos} {es : List Expr} {d : DE} (q : cMeth f ob m apos pos es = some d) : PE X (.Call (.Attribute ob m apos) es [] pos) (TEof T W rt d) := by
  unfold cMeth at q
  split at q
  · rename_i hc
    have h1 := Bool.and_eq_true_iff.mp hc
    have h2 := Bool.and_eq_true_iff.mp h1.2
    have h3 := Bool.and_eq_true_iff.mp h2.2
    split at q
    · cases q
    · rename_i e es'
      have hs := Bool.and_eq_true_iff.mp h3.1
      have hl : (e :: es').length + 1 ≤ 29 := Nat.le_of_ble_eq_true h3.2
      have few : ((backTo pos (starEach (e :: es') X.env)).all (fun x => !x.1) && (backToKw pos (keywordEach [] X.env)).all (fun x => x.1.isSome) && decide ((e :: es').length + ([] : List Keyword).length + (if ([] : List Keyword).isEmpty then 0 else 1) < 30)) = true := by
        rw [star_all h3.1, show (backToKw pos (keywordEach [] X.env)).all (fun x => x.1.isSome) = true from rfl, decide_eq_true (show (e :: es').length + ([] : List Keyword).length + (if ([] : List Keyword).isEmpty then 0 else 1) < 30 by simp only [List.length_nil, List.isEmpty_nil, if_true]; omega)]
        rfl
      split at q
      · rename_i d0 dl ty pm ed ea em
        cases q
        have pe := h ob d0 ed
        have pa := cAf_ok h ea
        unfold mthP at em
        split at em
        · rename_i en; cases em; have en := str_eq en; subst en
          exact se_meth PySem.F.plainAttrs_list PySem.F.slot_list_append PySem.F.type_list_append append_ok (fun ρ mh H m x rh r t => by rw [o.K]; exact lst_ty rh r t) pe pa (base_ok h1.1) few h2.1 (star_cons hs.1) (star_any hs.2)
        split at em
        · rename_i en; cases em; have en := str_eq en; subst en
          exact se_meth PySem.F.plainAttrs_str PySem.F.slot_str_split PySem.F.type_str_split split_ok (fun ρ mh H m x rh r t => str_ty _ r t) pe pa (base_ok h1.1) few h2.1 (star_cons hs.1) (star_any hs.2)
        split at em
        · rename_i en; cases em; have en := str_eq en; subst en
          exact se_meth PySem.F.plainAttrs_str PySem.F.slot_str_find PySem.F.type_str_find find_ok (fun ρ mh H m x rh r t => str_ty _ r t) pe pa (base_ok h1.1) few h2.1 (star_cons hs.1) (star_any hs.2)
        · cases em
      · cases q
  · cases q
end
end Vf
end L2
end
section
/-! VM: the expressions, joined. -/
namespace L2
namespace Vf
open PySem PySem.Spec PyProof.Rows
section
variable {Γ : Gm} {T : Tx} {rt : Rt} {W : WX} {X : Cx}
theorem cName_ok (o : OkX Γ T rt W X) {x : Str} {pos : Pos} {d : DE} (q : cName Γ x = some d) : PE X (.Name x pos) (TEof T W rt d) := by
  unfold cName at q
  split at q
  · cases q
  · rename_i hc
    have hc : (x == dbg || x == cld) = false := Bool.eq_false_iff.mpr hc
    have h1 := Bool.or_eq_false_iff.mp hc
    split at q
    · rename_i hv
      split at q
      · rename_i i ei
        cases q
        exact se_var o.nm (ix0 ei) hv h1.1 h1.2
      · cases q
    · split at q
      · rename_i hg
        split at q
        · rename_i m em
          cases q
          obtain ⟨v, u, hm, r, rv⟩ := o.gl x m em
          exact se_con (pe_glob (o.nm.glo hg) hm r h1.1) rv
        · split at q
          · rename_i hb
            split at q
            · rename_i n en
              cases q
              have hm := o.bn x hb
              unfold tyIx at en
              split at en
              · rename_i e; cases en; have e := str_eq e; subst e
                exact se_ty (o.nm.glo hg) hm PyProof.Rows.boot_bool (by decide) h1.1
              split at en
              · rename_i e; cases en; have e := str_eq e; subst e
                exact se_ty (o.nm.glo hg) hm PyProof.Rows.boot_int (by decide) h1.1
              split at en
              · rename_i e; cases en; have e := str_eq e; subst e
                exact se_ty (o.nm.glo hg) hm PyProof.Rows.boot_str (by decide) h1.1
              split at en
              · rename_i e; cases en; have e := str_eq e; subst e
                exact se_ty (o.nm.glo hg) hm PyProof.Rows.boot_list (by decide) h1.1
              split at en
              · rename_i e; cases en; have e := str_eq e; subst e
                exact se_ty (o.nm.glo hg) hm PyProof.Rows.boot_tuple (by decide) h1.1
              split at en
              · rename_i e; cases en; have e := str_eq e; subst e
                exact se_ty (o.nm.glo hg) hm PyProof.Rows.boot_dict (by decide) h1.1
              · cases en
            · cases q
          · cases q
      · cases q
theorem binP_ok (o : OkX Γ T rt W X) {op : Operator} {p : P2} (q : binP op = some p) : OpR X (binaryOp op) (R2of T p) := by
  cases op <;> cases q
  · exact add_ok o.K
  · exact sub_ok
  · exact mul_ok
  · exact mod_ok
  · exact pow_ok
  · exact fdiv_ok
theorem cmpP_ok (o : OkX Γ T rt W X) {op : CmpOp} {p : P2} (q : cmpP op = some p) : OpR X (compareOp op) (R2of T p) := by
  have hu := o.un
  cases op <;> cases q
  · exact eq_ok o.K (by omega)
  · exact ne_ok o.K (by omega)
  · exact lt_ok
  · exact le_ok
  · exact gt_ok
  · exact ge_ok
  · exact is_ok
  · exact isnot_ok
  · exact in_ok o.K (by omega)
  · exact notin_ok o.K (by omega)
theorem st_cmp {op : CmpOp} {p : P2} {a b : Expr} {pos : Pos} {da db : DE} (ho : OpR X (compareOp op) (R2of T p)) (ha : PE X a (TEof T W rt da)) (hb : PE X b (TEof T W rt db)) (h1 : behindInMarks op b = false) : PT X (.Compare a [op] [b] pos) (TTof T W rt (boolD (op2D p da db))) :=
  (pt_cmpR ho ha hb h1).imp fun σ H Q ⟨ρ, env, mh, rh, rs, w⟩ => by
    have w' : Want T (fun _ _ a b => a = b) ρ H (fun c dd H' => W c dd σ H') (bnd (op2D p da db) (fun v _ _ mh => match v with
      | .bl b => Rs.ok b mh
      | _ => .stuck) rt env mh) Q := w
    have := (Want.bind (rel := RV T) rh rs w')
    obtain ⟨ρ0, env0, mh0, rh0, rs0, w0⟩ := this
    refine (Want.bind rh0 rs0 w0).mono fun x H1 ⟨ρ1, mh1, a, e1, rh1, rs1, ra, w1⟩ => (Want.bind rh1 rs1 w1).mono fun y H2 ⟨ρ2, mh2, b, e2, rh2, rs2, rb, w2⟩ => ?_
    obtain ⟨m, mh3, hp, k⟩ := lft_want w2
    refine ⟨ρ2, a, b, mh2, m, mh3, rh2, ra.mono e2, rb, hp, fun v ρ' H' e r rv => ?_⟩
    obtain ⟨ρ3, mh4, a3, x3, rh3, _, r3, w3⟩ := k v ρ' H' e r rv
    cases a3 <;> first | exact w3.elim | skip
    rename_i bb
    unfold RV at r3
    exact ⟨bb, r3, w3 bb ρ3 H' .refl rh3 rfl⟩
theorem okx_blk (o : OkX Γ T rt W X) (s : Shared) (H : Hp) (scope : Scope) (C : Addr) (cl : List (Str × Addr)) (fp : List Addr) : OkX { Γ with nm := scope.names } T rt NoX (X.blk s H scope (compEnvC scope cl C X.env) fp) :=
  ⟨o.K, nm_blk o.nm s H scope C cl fp, o.cm, o.gd, o.un, takes0, o.gl, o.bn, fun x q h => ⟨(o.fs x q h).ex⟩⟩
theorem plainIx_of {b : Expr} (h : ∀ lo hi st p, b = .Slice lo hi st p → False) : PlainIx b := by
  cases b <;> first | (intro o i; rfl) | exact (h _ _ _ _ rfl).elim
theorem ownOf_mem {N : List Str} : ∀ {l : List (Str × NameKind)} {p : Str × Nat}, p ∈ ownOf N l → True := fun _ => trivial
theorem stepE_ok {ce : CE} {ct : CT} (he : SoE ce) (ht : SoT ct) : SoE (stepE ce ct) := by
  intro Γ e d q T rt W X o
  have h : ∀ e d, ce Γ e = some d → PE X e (TEof T W rt d) := fun e d q => he Γ e d q T rt W X o
  have h' : ∀ e d, ct Γ e = some d → PT X e (TTof T W rt d) := fun e d q => ht Γ e d q T rt W X o
  unfold stepE at q
  split at q
  · exact cName_ok o q
  · split at q <;> cases q
    · exact se_int
    · exact se_bl
    · exact se_non
    · exact se_str
  · split at q
    · rename_i p da db ep ea eb
      cases q
      exact se_op2 (binP_ok o ep) (h _ _ ea) (h _ _ eb)
    · cases q
  · split at q
    · rename_i d0 ed
      cases q
      exact se_un neg_ok (h _ _ ed)
    · rename_i d0 ed
      cases q
      exact se_not (h _ _ ed)
    · cases q
  · split at q
    · exact cBoV_and h q
    · exact cBoV_or h q
  · split at q
    · split at q
      · rename_i hn
        split at q
        · rename_i p da db ep ea eb
          cases q
          exact se_cmp (cmpP_ok o ep) (h _ _ ea) (h _ _ eb) (marks_ok hn)
        · cases q
      · cases q
    · cases q
  · split at q
    · rename_i dc da db ec ea eb
      cases q
      exact se_if (h' _ _ ec) (h _ _ ea) (h _ _ eb)
    · cases q
  · split at q
    · rename_i dl ed
      cases q
      exact se_tup (cAf_ok h ed)
    · cases q
  · split at q
    · rename_i dl ed
      cases q
      exact se_lst (cAf_ok h ed)
    · cases q
  · split at q
    · split at q
      · rename_i d0 l0 h0 ed el eh
        cases q
        exact se_slice o.K (h _ _ ed) (cOf_ok h el) (cOf_ok h eh)
      · cases q
    · rename_i b hb
      split at q
      · rename_i da db ea eb
        cases q
        exact se_ix (ix_ok o.K) (h _ _ ea) (h _ _ eb) (plainIx_of hb)
      · cases q
  · split at q
    · exact cCall_ok o h q
    · split at q
      · exact cMeth_ok o h q
      · cases q
    · cases q
  · rename_i elt gs scope pos
    split at q
    · rename_i tg it ifs a
      split at q
      · rename_i ha
        have ha : a = 0 := eq_of_beq ha
        subst ha
        dsimp only at q
        split at q
        · rename_i hb
          have hb := Bool.and_eq_true_iff.mp hb
          split at q
          · rename_i di dg de dt ei eg ee et
            cases q
            have ob := okx_blk o
            have base := pe_lc (X := X) (pos := pos) (ifs := ifs) (elt := elt) (own := ownOf Γ.N scope.names) o.cm (by rw [o.nm.N_]; exact o.nm.nd) (cIf_ok (tg := tg) o h ei) (blkS_ok o.nm hb.1)
              (fun s H C cl fp => cGt_ok (Γ := { Γ with nm := scope.names }) (T := T) (rt := rt) (P := OwnP ((ownOf Γ.N scope.names).map (·.2))) (ob s H scope C cl fp).K (ob s H scope C cl fp).cm (ob s H scope C cl fp).nm (fun i σ v hi => wipe_set σ _ (by simpa using hi)) (fun σ => rfl) (fun a b c h1 h2 => h2.trans h1) eg)
              (tt := TTof T NoX rt dt) (fun s H C cl fp => (by
                have o2 := ob s H scope C cl fp
                split at et
                · cases et; exact sts_nil
                · exact sts_one (ht _ _ _ et T rt NoX _ o2)
                · cases et))
              (fun s H C cl fp => he _ _ _ ee T rt NoX _ (ob s H scope C cl fp))
              (folded_ok hb.2)
            exact base.imp fun σ H Q hq => lc_of hq
          · cases q
        · cases q
      · cases q
    · cases q
  · cases q
/-- a comprehension stored at a name of its line -/
def SoC (ce : CE) : Prop := ∀ Γ elt gs scope pos d, ce Γ (.ListComp elt gs scope pos) = some d → ∀ T rt W X, OkX Γ T rt W X → ∀ (i : Nat) (y : Str) (py spos : Pos), Γ.N[i]? = some y → Γ.nm.lookup y = some .local →
  (py.line == pos.line) = true → (scope.names.any fun (n, k) => n == y && (k == .local || k == .cell)) = false → PS X (.Assign [.Name y py] (.ListComp elt gs scope pos) spos) (TSof T W rt (setS i d))
theorem stepE_sc {ce : CE} {ct : CT} (he : SoE ce) (ht : SoT ct) : SoC (stepE ce ct) := by
  intro Γ elt gs scope pos d q T rt W X o i y py spos hi hy hl ha
  have h : ∀ e d, ce Γ e = some d → PE X e (TEof T W rt d) := fun e d q => he Γ e d q T rt W X o
  unfold stepE at q
  dsimp only at q
  split at q
  · rename_i tg it ifs a
    split at q
    · rename_i hz
      have hz : a = 0 := eq_of_beq hz
      subst hz
      split at q
      · rename_i hb
        have hb := Bool.and_eq_true_iff.mp hb
        split at q
        · rename_i di dg de dt ei eg ee et
          cases q
          have ob := okx_blk o
          refine ⟨fun pins s σ H D I hD => ?_⟩
          have base := ps_setLc (X := X) (pos := pos) (ifs := ifs) (elt := elt) (py := py) (spos := spos) (own := ownOf Γ.N scope.names) o.cm (by rw [o.nm.N_]; exact o.nm.nd) (by rw [o.nm.N_]; exact hi) (o.nm.lo y hy) (sw_true I.ok.kind (o.nm.lo y hy) hl ha)
            (cIf_ok (tg := tg) o h ei) (blkS_ok o.nm hb.1)
            (fun s H C cl fp => cGt_ok (Γ := { Γ with nm := scope.names }) (T := T) (rt := rt) (P := OwnP ((ownOf Γ.N scope.names).map (·.2))) (ob s H scope C cl fp).K (ob s H scope C cl fp).cm (ob s H scope C cl fp).nm (fun i σ v hi => wipe_set σ _ (by simpa using hi)) (fun σ => rfl) (fun a b c h1 h2 => h2.trans h1) eg)
            (tt := TTof T NoX rt dt) (fun s H C cl fp => (by
              have o2 := ob s H scope C cl fp
              split at et
              · cases et; exact sts_nil
              · exact sts_one (ht _ _ _ et T rt NoX _ o2)
              · cases et))
            (fun s H C cl fp => he _ _ _ ee T rt NoX _ (ob s H scope C cl fp))
            (folded_ok hb.2)
          refine base.run pins s σ H D I ?_
          obtain ⟨ρ, env, mh, rh, rs, w⟩ := hD
          exact lc_of ((WantS.bind rh rs w).mono fun x H1 ⟨ρ1, mh1, a, e1, rh1, rs1, ra, w1⟩ => w1 _ ρ1 H1 .refl rh1 (rs1.set i ra))
        · cases q
      · cases q
    · cases q
  · cases q
theorem stepT_ok {ce : CE} {ct : CT} (he : SoE ce) (ht : SoT ct) : SoT (stepT ce ct) := by
  intro Γ e d q T rt W X o
  have h : ∀ e d, ce Γ e = some d → PE X e (TEof T W rt d) := fun e d q => he Γ e d q T rt W X o
  have h' : ∀ e d, ct Γ e = some d → PT X e (TTof T W rt d) := fun e d q => ht Γ e d q T rt W X o
  unfold stepT at q
  split at q
  · split at q
    · exact (cBoT_and h' q).pt
    · exact (cBoT_or h' q).pt
  · split at q
    · rename_i d0 ed
      cases q
      exact st_not (h' _ _ ed)
    · cases q
  · split at q
    · split at q
      · rename_i hn
        split at q
        · rename_i p da db ep ea eb
          cases q
          exact st_cmp (cmpP_ok o ep) (h _ _ ea) (h _ _ eb) (marks_ok hn)
        · cases q
      · cases q
    · cases q
  · split at q
    · rename_i hp
      split at q
      · rename_i d0 ed
        cases q
        exact st_tru o.K (h _ _ ed) (plainT_ok hp)
      · cases q
    · cases q
theorem c_ok : ∀ n, SoE (cE n) ∧ SoT (cT n)
  | 0 => ⟨fun Γ e d q => (by unfold cE at q; cases q), fun Γ e d q => (by unfold cT at q; cases q)⟩
  | n + 1 => by
    obtain ⟨h1, h2⟩ := c_ok n
    refine ⟨?_, ?_⟩
    · unfold cE; exact stepE_ok h1 h2
    · unfold cT; exact stepT_ok h1 h2
theorem c_sc : ∀ n, SoC (cE n)
  | 0 => fun Γ elt gs sc pos d q => (by unfold cE at q; cases q)
  | n + 1 => by
    obtain ⟨h1, h2⟩ := c_ok n
    unfold cE; exact stepE_sc h1 h2
end
end Vf
end L2
end
section
/-! VN: statements, compiled. -/
namespace L2
namespace Vf
open PySem PySem.Spec PyProof.Rows
structure OkS (Γ : Gm) (T : Tx) (rt : Rt) (W : WX) (X : Cx) : Prop extends OkX Γ T rt W X where
  po : PassesOwn (model X.prog X.w) X.A X.env X.xe
def isLo (nm : List (Str × NameKind)) (x : Str) : Bool := match nm.lookup x with
  | some .local => true
  | _ => false
theorem isLo_ok {nm : List (Str × NameKind)} {x : Str} (h : isLo nm x = true) : nm.lookup x = some .local := by
  unfold isLo at h
  split at h
  · assumption
  · cases h
/-- targets of statements: names, places -/
def cGn2 (Γ : Gm) (f : Expr → Option DE) : Expr → Option DG
  | .Subscript o i _ => match f o, f i with
    | some a, some b => if notSlice i then some (subG a b) else none
    | _, _ => none
  | e => cGn Γ (fun _ => true) e
def cGns2 (Γ : Gm) (f : Expr → Option DE) : List Expr → Option DGs
  | [] => some nilG
  | e :: es => match cGn2 Γ f e, cGns2 Γ f es with
    | some g, some t => some (consG g t)
    | _, _ => none
def cGt2 (Γ : Gm) (f : Expr → Option DE) : Expr → Option DG
  | .Tuple es _ _ => match cGns2 Γ f es with
    | some t => some (tupG es.length t)
    | none => none
  | e => cGn2 Γ f e
def notTup : Expr → Bool
  | .Tuple _ _ _ => false
  | _ => true
def par2Ok (nm : List (Str × NameKind)) (x y : Str) (px py : Pos) (a b : Expr) : Bool :=
  isLo nm x && (isLo nm y && (px.line == py.line && (!(x == y) && (notStars [a, b] && (!([a, b].all (foldedForSure 8)) && !([a, b].all (constantsAlone 8)))))))
def par3Ok (nm : List (Str × NameKind)) (x y z : Str) (px py pz : Pos) (a b c : Expr) : Bool :=
  isLo nm x && (isLo nm y && (isLo nm z && (px.line == py.line && (px.line == pz.line && (!(x == y) && (!(x == z) && (!(y == z) && (notStars [a, b, c] && (!([a, b, c].all (foldedForSure 8)) && !([a, b, c].all (constantsAlone 8)))))))))))
/-- no exchange of stores: another number of targets, or constants alone -/
def par0Ok (nm : List (Str × NameKind)) (ts vs : List Expr) : Bool :=
  !(ts.length == 2 || ts.length == 3) || (notStars vs && vs.all (foldedForSure 8))
def cAsg (Γ : Gm) (ce : CE) (t v : Expr) : Option DS := match t with
  | .Name x p => if isLoc Γ.nm x then (match ixOf Γ.N x 0, ce Γ v with
    | some i, some d => (match v with
      | .ListComp _ _ sc vp => if isLo Γ.nm x && (p.line == vp.line && !(sc.names.any fun (n, k) => n == x && (k == .local || k == .cell))) then some (setS i d) else none
      | v => if notComp v then some (setS i d) else none)
    | _, _ => none) else none
  | .Tuple ts _ _ => (match v with
    | .Tuple vs _ _ => (match ts, vs with
      | [.Name x px, .Name y py], [a, b] => if par2Ok Γ.nm x y px py a b then (match ixOf Γ.N x 0, ixOf Γ.N y 0, cAf (ce Γ) [a, b] with
          | some i, some j, some dl => some (par2S i j dl)
          | _, _, _ => none)
        else if par0Ok Γ.nm [.Name x px, .Name y py] [a, b] then (match ce Γ v, cGt2 Γ (ce Γ) t with
          | some d, some g => some (asgS d g)
          | _, _ => none) else none
      | [.Name x px, .Name y py, .Name z pz], [a, b, c] => if par3Ok Γ.nm x y z px py pz a b c then (match ixOf Γ.N x 0, ixOf Γ.N y 0, ixOf Γ.N z 0, cAf (ce Γ) [a, b, c] with
          | some i, some j, some l, some dl => some (par3S i j l dl)
          | _, _, _, _ => none)
        else if par0Ok Γ.nm [.Name x px, .Name y py, .Name z pz] [a, b, c] then (match ce Γ v, cGt2 Γ (ce Γ) t with
          | some d, some g => some (asgS d g)
          | _, _ => none) else none
      | ts, vs => if par0Ok Γ.nm ts vs then (match ce Γ v, cGt2 Γ (ce Γ) t with
          | some d, some g => some (asgS d g)
          | _, _ => none) else none)
    | v => if notComp v then (match ce Γ v, cGt2 Γ (ce Γ) t with
      | some d, some g => some (asgS d g)
      | _, _ => none) else none)
  | .Subscript _ _ _ => if notComp v then (match ce Γ v, cGt2 Γ (ce Γ) t with
    | some d, some g => some (asgS d g)
    | _, _ => none) else none
  | _ => none
abbrev CS := Gm → Stmt → Option DS
def cSs (f : Stmt → Option DS) : List Stmt → Option DS
  | [] => some passS
  | s :: r => match f s, cSs f r with
    | some a, some b => some (seqS a b)
    | _, _ => none
def stepS (ce : CE) (ct : CT) (cs : CS) (Γ : Gm) (st : Stmt) : Option DS := match st with
  | .Expr e _ => if notComp e then (match ce Γ e with
    | some d => some (exprS d)
    | none => none) else none
  | .Return v _ => (match v with
    | some e => (match ce Γ e with
      | some d => some (retS d)
      | none => none)
    | none => some retNS)
  | .Pass _ => some passS
  | .Break _ => some brkS
  | .Continue _ => some ctS
  | .If c a b _ => (match ct Γ c, cSs (cs Γ) a, cSs (cs Γ) b with
    | some dc, some da, some db => some (ifS dc da db)
    | _, _, _ => none)
  | .While c b o _ => (match o, ct Γ c, cSs (cs Γ) b with
    | [], some dc, some db => some (whileS dc db)
    | _, _, _ => none)
  | .For tg it b o _ => if notSet it then (match o, cIf Γ (ce Γ) (isTup tg) it, cGt Γ (fun _ => true) tg, cSs (cs Γ) b with
    | [], some di, some dg, some db => some (forS di dg db)
    | _, _, _, _ => none) else none
  | .Assign ts v _ => (match ts with
    | [t] => cAsg Γ ce t v
    | _ => none)
  | .Raise _ _ _ => some stuckS
  | _ => none
def cS (ce : CE) (ct : CT) : Nat → CS
  | 0 => fun _ _ => none
  | n + 1 => stepS ce ct (cS ce ct n)
section
variable {Γ : Gm} {T : Tx} {rt : Rt} {W : WX} {X : Cx} {f : Expr → Option DE} {pos : Pos}
theorem nx_name (i : Nat) : ∀ rt v env mh, (∃ e h, nameG i rt v env mh = .nx e h) ∨ nameG i rt v env mh = .stuck := fun _ _ _ _ => .inl ⟨_, _, rfl⟩
theorem nx_sub (a b : DE) : ∀ rt v env mh, (∃ e h, subG a b rt v env mh = .nx e h) ∨ subG a b rt v env mh = .stuck := fun rt v env mh => by
  unfold subG
  split
  · split
    · split
      · exact .inl ⟨_, _, rfl⟩
      · exact .inr rfl
    · exact .inr rfl
  · exact .inr rfl
def NxG (g : DG) : Prop := ∀ rt v env mh, (∃ e h, g rt v env mh = .nx e h) ∨ g rt v env mh = .stuck
def NxGs (g : DGs) : Prop := ∀ rt v env mh, (∃ e h, g rt v env mh = .nx e h) ∨ g rt v env mh = .stuck
theorem nx_nil : NxGs nilG := fun rt v env mh => by
  unfold nilG
  split
  · exact .inl ⟨_, _, rfl⟩
  · exact .inr rfl
theorem nx_cons {g : DG} {t : DGs} (h1 : NxG g) (h2 : NxGs t) : NxGs (consG g t) := fun rt v env mh => by
  unfold consG
  split
  · exact .inr rfl
  · rename_i v r
    rcases h1 rt v env mh with ⟨e, h, q⟩ | q
    · rw [q]; exact h2 rt r e h
    · rw [q]; exact .inr rfl
theorem nx_tup {n : Nat} {t : DGs} (h : NxGs t) : NxG (tupG n t) := fun rt v env mh => by
  unfold tupG
  split
  · split
    · exact h rt _ env mh
    · exact .inr rfl
  · exact .inr rfl
theorem cGn_nx {ok : Nat → Bool} {e : Expr} {g : DG} (q : cGn Γ ok e = some g) : NxG g := by
  unfold cGn at q
  split at q
  · split at q
    · split at q
      · split at q
        · cases q; exact nx_name _
        · cases q
      · cases q
    · cases q
  · cases q
theorem asgSub {o i : Expr} {pos : Pos} {env : Env} (h : notSlice i = true) : ∀ v, assign (.Subscript o i pos) env v = (do
      let ov ← holding [v] (eval o env)
      let iv ← holding [v, ov] (eval i env)
      standAt pos
      holding [v, ov, iv] (setItem ov iv v)
      release [v, ov, iv] []) := by
  cases i <;> first | (intro v; rfl) | cases h
theorem cGn2_ok (o : OkX Γ T rt W X) (h : ∀ e d, f e = some d → PE X e (TEof T W rt d)) {tg : Expr} {d : DG} (q : cGn2 Γ f tg = some d) : PG X tg (TGof T AnyP rt d) ∧ notStar tg = true ∧ NxG d := by
  unfold cGn2 at q
  split at q
  · split at q
    · rename_i ea eb
      split at q
      · rename_i hs
        cases q
        exact ⟨sg_sub (fun _ => trivial) (h _ _ ea) (h _ _ eb) (asgSub hs), rfl, nx_sub _ _⟩
      · cases q
    · cases q
  · obtain ⟨h1, h2⟩ := cGn_ok (T := T) (rt := rt) (P := AnyP) o.nm (fun _ _ _ _ => trivial) q
    exact ⟨h1, h2, cGn_nx q⟩
theorem cGns2_ok (o : OkX Γ T rt W X) (h : ∀ e d, f e = some d → PE X e (TEof T W rt d)) : ∀ {es : List Expr} {d : DGs}, cGns2 Γ f es = some d → PGs X es (TGsof T AnyP rt d) ∧ notStars es = true ∧ NxGs d
  | [], d, q => by cases q; exact ⟨sgs_nil (fun _ => trivial), rfl, nx_nil⟩
  | e :: es, d, q => by
    unfold cGns2 at q
    split at q
    · rename_i g1 t1 eg et
      cases q
      obtain ⟨p1, s1, n1⟩ := cGn2_ok o h eg
      obtain ⟨p2, s2, n2⟩ := cGns2_ok o h et
      exact ⟨sgs_cons (fun _ _ _ _ _ => trivial) p1 p2 (ae_cons s1), by unfold notStars; rw [s1, s2]; rfl, nx_cons n1 n2⟩
    · cases q
theorem cGt2_ok (o : OkX Γ T rt W X) (h : ∀ e d, f e = some d → PE X e (TEof T W rt d)) {tg : Expr} {d : DG} (q : cGt2 Γ f tg = some d) : PG X tg (TGof T AnyP rt d) ∧ notStar tg = true ∧ NxG d := by
  unfold cGt2 at q
  split at q
  · split at q
    · rename_i et
      cases q
      obtain ⟨p2, s2, n2⟩ := cGns2_ok o h et
      exact ⟨sg_tup o.K o.cm p2 (ae_len s2) (ae_star s2), rfl, nx_tup n2⟩
    · cases q
  · exact cGn2_ok o h q
theorem swapped_notTup {t v : Expr} {env : Env} (h : notTup v = true) : swappedStores [t] v env = pure none := by
  cases v <;> first
    | (cases h; done)
    | (cases t <;> rfl)
theorem swapped_name {x : Expr} {v : Expr} {env : Env} (h : ∀ ts k p, x = .Tuple ts k p → False) (h2 : ∀ ts p, x = .List ts p → False) : swappedStores [x] v env = pure none := by
  cases x <;> first
    | rfl
    | exact (h _ _ _ rfl).elim
    | exact (h2 _ _ rfl).elim
theorem swapped_zero {nm : List (Str × NameKind)} {ts vs : List Expr} {k k2 : Nat} {p p2 : Pos} {env : Env} (h : par0Ok nm ts vs = true) : swappedStores [.Tuple ts k p] (.Tuple vs k2 p2) env = pure none := by
  unfold par0Ok at h
  unfold swappedStores
  dsimp only
  split
  · rfl
  · rename_i hc
    split
    · rfl
    · split
      · rfl
      · rename_i h2
        rcases Bool.or_eq_true_iff.mp h with q | q
        · exfalso; apply hc
          rw [q]; rfl
        · have q := (Bool.and_eq_true_iff.mp q).2
          rw [if_pos q]
theorem noStar_any {vs : List Expr} (h : notStars vs = true) : (vs.any fun x => match x with
    | .Starred _ _ => true
    | _ => false) = false := by
  induction vs with
  | nil => rfl
  | cons v vs ih =>
    have h := Bool.and_eq_true_iff.mp h
    rw [List.any_cons, ih h.2, Bool.or_false]
    cases v <;> first | rfl | cases h.1
theorem starNo : ∀ e : Expr, notStar e = true → ¬ ((match e with
    | .Starred _ _ => true
    | _ => false) = true) := fun e h => by cases e <;> first | exact Bool.false_ne_true | exact (Bool.false_ne_true h).elim
theorem swapped_par2 {x y : Str} {px py pt pt2 : Pos} {kt k2 : Nat} {a b : Expr} (o : NmOk Γ.N Γ.nm X) (hk : X.env.blockKind = .function) (h : par2Ok Γ.nm x y px py a b = true) : swappedStores [.Tuple [.Name x px, .Name y py] kt pt] (.Tuple [a, b] k2 pt2) X.env = pure (some [x, y]) ∧ x ≠ y := by
  unfold par2Ok at h
  have h0 := Bool.and_eq_true_iff.mp h
  have h1 := Bool.and_eq_true_iff.mp h0.2
  have h2 := Bool.and_eq_true_iff.mp h1.2
  have h3 := Bool.and_eq_true_iff.mp h2.2
  have h4 := Bool.and_eq_true_iff.mp h3.2
  have h5 := Bool.and_eq_true_iff.mp h4.2
  have kx : X.env.kindOf x = some .local := o.lo x (isLo_ok h0.1)
  have ky : X.env.kindOf y = some .local := o.lo y (isLo_ok h1.1)
  have hl : px.line = py.line := eq_of_beq h2.1
  have hxy : ¬ x = y := by simpa using h3.1
  have e5 : [a, b].all (foldedForSure 8) = false := by simpa only [Bool.not_eq_true'] using h5.1
  have e6 : [a, b].all (constantsAlone 8) = false := by simpa only [Bool.not_eq_true'] using h5.2
  refine ⟨?_, hxy⟩
  unfold swappedStores
  dsimp only
  have sa := Bool.and_eq_true_iff.mp h4.1
  have sb := Bool.and_eq_true_iff.mp sa.2
  have hyx : (y == x) = false := by simpa using Ne.symm hxy
  simp only [hk, kx, ky, hl, e5, e6]
  simp [List.filterMap_cons, List.filterMap_nil, kx, ky, List.eraseDups, List.eraseDupsBy, List.eraseDupsBy.loop, hxy, Ne.symm hxy, hl, Expr.pos]
  refine Eq.trans (if_neg (fun hc => Or.elim hc (starNo a sa.1) (starNo b sb.1))) ?_
  rw [hyx]; rfl
theorem swapped_par3 {x y z : Str} {px py pz pt pt2 : Pos} {kt k2 : Nat} {a b c : Expr} (o : NmOk Γ.N Γ.nm X) (hk : X.env.blockKind = .function) (h : par3Ok Γ.nm x y z px py pz a b c = true) :
    swappedStores [.Tuple [.Name x px, .Name y py, .Name z pz] kt pt] (.Tuple [a, b, c] k2 pt2) X.env = pure (some [x, y, z]) ∧ x ≠ y ∧ x ≠ z ∧ y ≠ z := by
  unfold par3Ok at h
  have h0 := Bool.and_eq_true_iff.mp h
  have h1 := Bool.and_eq_true_iff.mp h0.2
  have h2 := Bool.and_eq_true_iff.mp h1.2
  have h3 := Bool.and_eq_true_iff.mp h2.2
  have h4 := Bool.and_eq_true_iff.mp h3.2
  have h5 := Bool.and_eq_true_iff.mp h4.2
  have h6 := Bool.and_eq_true_iff.mp h5.2
  have h7 := Bool.and_eq_true_iff.mp h6.2
  have h8 := Bool.and_eq_true_iff.mp h7.2
  have h9 := Bool.and_eq_true_iff.mp h8.2
  have kx : X.env.kindOf x = some .local := o.lo x (isLo_ok h0.1)
  have ky : X.env.kindOf y = some .local := o.lo y (isLo_ok h1.1)
  have kz : X.env.kindOf z = some .local := o.lo z (isLo_ok h2.1)
  have hl : px.line = py.line := eq_of_beq h3.1
  have hl2 : px.line = pz.line := eq_of_beq h4.1
  have hl3 : pz.line = py.line := hl2.symm.trans hl
  have hxy : ¬ x = y := by simpa using h5.1
  have hxz : ¬ x = z := by simpa using h6.1
  have hyz : ¬ y = z := by simpa using h7.1
  have e5 : [a, b, c].all (foldedForSure 8) = false := by simpa only [Bool.not_eq_true'] using h9.1
  have e6 : [a, b, c].all (constantsAlone 8) = false := by simpa only [Bool.not_eq_true'] using h9.2
  refine ⟨?_, hxy, hxz, hyz⟩
  unfold swappedStores
  dsimp only
  have sa := Bool.and_eq_true_iff.mp h8.1
  have sb := Bool.and_eq_true_iff.mp sa.2
  have sc := Bool.and_eq_true_iff.mp sb.2
  have hyx : (y == x) = false := by simpa using Ne.symm hxy
  have hzx : (z == x) = false := by simpa using Ne.symm hxz
  have hzy : (z == y) = false := by simpa using Ne.symm hyz
  simp only [hk, kx, ky, kz, hl, hl3, e5, e6]
  simp [List.filterMap_cons, List.filterMap_nil, kx, ky, kz, List.eraseDups, List.eraseDupsBy, List.eraseDupsBy.loop, hxy, Ne.symm hxy, hl, hl3, Expr.pos]
  simp only [hyx, hzx, hzy, List.any]
  exact Eq.trans (if_neg (fun hc => Or.elim hc (starNo a sa.1) (fun hc => Or.elim hc (starNo b sb.1) (starNo c sc.1)))) rfl
theorem blkKind {pins : List (Addr × Obj)} {σ : L2.St} {H : Hp} {s : Shared} (I : Inv X pins σ H s) : X.env.blockKind = .function := by
  unfold Env.blockKind
  rw [I.ok.kind]
  rfl
theorem asg_core (o : OkX Γ T rt W X) (h : ∀ e d, f e = some d → PE X e (TEof T W rt d)) {t v : Expr} {d : DE} {g : DG} (hv : PE X v (TEof T W rt d)) (hg : cGt2 Γ f t = some g) (hn : notComp v = true) (hw : swappedStores [t] v X.env = pure none) : PS X (.Assign [t] v pos) (TSof T W rt (asgS d g)) := by
  obtain ⟨p1, s1, n1⟩ := cGt2_ok o h hg
  refine ss_asg hv p1 ?_ hw ?_ n1
  · show swapsWith v (some t) pos.line X.env = pure false
    exact swaps_ok hn
  · rw [ae_cons s1]; rfl
theorem cAsg_ok {ce : CE} (he : SoE ce) (hsc : SoC ce) (o : OkX Γ T rt W X) {t v : Expr} {d : DS} (q : cAsg Γ ce t v = some d) : PS X (.Assign [t] v pos) (TSof T W rt d) := by
  have h : ∀ e d, ce Γ e = some d → PE X e (TEof T W rt d) := fun e d q => he Γ e d q T rt W X o
  unfold cAsg at q
  split at q
  · rename_i x px
    split at q
    · rename_i hx
      split at q
      · rename_i i d0 ei ed
        split at q
        · rename_i elt gs sc vp
          split at q
          · rename_i hc
            cases q
            have hc1 := Bool.and_eq_true_iff.mp hc
            have hc2 := Bool.and_eq_true_iff.mp hc1.2
            exact hsc Γ elt gs sc vp _ ed T rt W X o i x px pos (ix0 ei) (isLo_ok hc1.1) hc2.1 (by simpa only [Bool.not_eq_true'] using hc2.2)
          · cases q
        · split at q
          · rename_i hn
            cases q
            exact ss_set o.nm (ix0 ei) hx (h _ _ ed) (swaps_ok hn)
          · cases q
      · cases q
    · cases q
  · rename_i ts kt pt
    split at q
    · rename_i vs kv pv
      split at q
      · rename_i x px y py a b
        split at q
        · rename_i hp
          split at q
          · rename_i i j dl ei ej ea
            cases q
            have hl : isLo Γ.nm x = true ∧ isLo Γ.nm y = true := by
              unfold par2Ok at hp
              have h0 := Bool.and_eq_true_iff.mp hp
              exact ⟨h0.1, (Bool.and_eq_true_iff.mp h0.2).1⟩
            refine ⟨fun pins s σ H D I hD => ?_⟩
            obtain ⟨hw, hne⟩ := swapped_par2 (pt := pt) (pt2 := pv) (kt := kt) (k2 := kv) o.nm (blkKind I) hp
            have hij : i ≠ j := fun z => by
              subst z
              have := (ix0 ei).symm.trans (ix0 ej)
              exact hne (Option.some.inj this)
            exact (ss_par2 o.cm o.nm (ix0 ei) (ix0 ej) hij (isLo_ok hl.1) (isLo_ok hl.2) (cAf_ok h ea) hw rfl).run pins s σ H D I hD
          · cases q
        · split at q
          · rename_i hp
            split at q
            · rename_i d0 g0 ed eg
              cases q
              exact asg_core o h (h _ _ ed) eg rfl (swapped_zero hp)
            · cases q
          · cases q
      · rename_i x px y py z pz a b c
        split at q
        · rename_i hp
          split at q
          · rename_i i j l dl ei ej el ea
            cases q
            have hl : isLo Γ.nm x = true ∧ isLo Γ.nm y = true ∧ isLo Γ.nm z = true := by
              unfold par3Ok at hp
              have h0 := Bool.and_eq_true_iff.mp hp
              have h1 := Bool.and_eq_true_iff.mp h0.2
              exact ⟨h0.1, h1.1, (Bool.and_eq_true_iff.mp h1.2).1⟩
            refine ⟨fun pins s σ H D I hD => ?_⟩
            obtain ⟨hw, n1, n2, n3⟩ := swapped_par3 (pt := pt) (pt2 := pv) (kt := kt) (k2 := kv) o.nm (blkKind I) hp
            have hij : i ≠ j := fun w => by
              subst w
              exact n1 (Option.some.inj ((ix0 ei).symm.trans (ix0 ej)))
            have hil : i ≠ l := fun w => by
              subst w
              exact n2 (Option.some.inj ((ix0 ei).symm.trans (ix0 el)))
            have hjl : j ≠ l := fun w => by
              subst w
              exact n3 (Option.some.inj ((ix0 ej).symm.trans (ix0 el)))
            exact (ss_par3 o.cm o.nm (ix0 ei) (ix0 ej) (ix0 el) hij hil hjl (isLo_ok hl.1) (isLo_ok hl.2.1) (isLo_ok hl.2.2) (cAf_ok h ea) hw rfl).run pins s σ H D I hD
          · cases q
        · split at q
          · rename_i hp
            split at q
            · rename_i d0 g0 ed eg
              cases q
              exact asg_core o h (h _ _ ed) eg rfl (swapped_zero hp)
            · cases q
          · cases q
      · split at q
        · rename_i hp
          split at q
          · rename_i d0 g0 ed eg
            cases q
            exact asg_core o h (h _ _ ed) eg rfl (swapped_zero hp)
          · cases q
        · cases q
    · rename_i hv
      split at q
      · rename_i hn
        split at q
        · rename_i d0 g0 ed eg
          cases q
          refine asg_core o h (h _ _ ed) eg hn (swapped_notTup ?_)
          cases v <;> first | rfl | exact (hv _ _ _ rfl).elim
        · cases q
      · cases q
  · split at q
    · rename_i hn
      split at q
      · rename_i d0 g0 ed eg
        cases q
        exact asg_core o h (h _ _ ed) eg hn (swapped_name (fun _ _ _ z => by cases z) (fun _ _ z => by cases z))
      · cases q
    · cases q
  · cases q
theorem cSs_ok {f : Stmt → Option DS} (h : ∀ s d, f s = some d → PS X s (TSof T W rt d)) : ∀ {l : List Stmt} {d : DS}, cSs f l = some d → PSs X l (TSof T W rt d)
  | [], d, q => by cases q; exact sss_nil
  | s :: r, d, q => by
    unfold cSs at q
    split at q
    · rename_i a b ea eb
      cases q
      exact sss_cons (h s a ea) (cSs_ok h eb)
    · cases q
def SoS (cs : CS) : Prop := ∀ Γ st d, cs Γ st = some d → ∀ T rt W X, OkS Γ T rt W X → PS X st (TSof T W rt d)
theorem stepS_ok {ce : CE} {ct : CT} {cs : CS} (he : SoE ce) (hsc : SoC ce) (ht : SoT ct) (hs : SoS cs) : SoS (stepS ce ct cs) := by
  intro Γ st d q T rt W X o
  have h : ∀ e d, ce Γ e = some d → PE X e (TEof T W rt d) := fun e d q => he Γ e d q T rt W X o.toOkX
  have h' : ∀ e d, ct Γ e = some d → PT X e (TTof T W rt d) := fun e d q => ht Γ e d q T rt W X o.toOkX
  have h2 : ∀ s d, cs Γ s = some d → PS X s (TSof T W rt d) := fun s d q => hs Γ s d q T rt W X o
  unfold stepS at q
  split at q
  · split at q
    · rename_i hn
      split at q
      · rename_i ed
        cases q
        exact ss_expr (h _ _ ed) (swaps_ok hn)
      · cases q
    · cases q
  · split at q
    · split at q
      · rename_i ed
        cases q
        exact ss_ret (h _ _ ed)
      · cases q
    · cases q
      exact ss_retN
  · cases q; exact ss_pass
  · cases q; exact ss_break
  · cases q; exact ss_cont
  · split at q
    · rename_i ec ea eb
      cases q
      exact ss_if (h' _ _ ec) (cSs_ok h2 ea) (cSs_ok h2 eb)
    · cases q
  · split at q
    · rename_i ec eb
      cases q
      exact ss_while o.po (h' _ _ ec) (cSs_ok h2 eb)
    · cases q
  · split at q
    · rename_i hn
      split at q
      · rename_i ei eg eb
        cases q
        exact ss_for o.po o.cm (cIf_ok o.toOkX h ei) (cGt_ok o.K o.cm o.nm (fun _ _ _ _ => trivial) (fun _ => trivial) (fun _ _ _ _ _ => trivial) eg) (cSs_ok h2 eb) (folded_ok hn)
      · cases q
    · cases q
  · split at q
    · exact cAsg_ok he hsc o.toOkX q
    · cases q
  · cases q; exact ss_never
  · cases q
theorem cS_ok {ce : CE} {ct : CT} (he : SoE ce) (hsc : SoC ce) (ht : SoT ct) : ∀ n, SoS (cS ce ct n)
  | 0 => fun Γ st d q => by unfold cS at q; cases q
  | n + 1 => by unfold cS; exact stepS_ok he hsc ht (cS_ok he hsc ht n)
end
end Vf
end L2
end
section
/-! VO: a whole module of defs. -/
namespace L2
namespace Vf
open PySem PySem.Spec PyProof.Rows
section
variable {P : Program} {w : World} {K : PySem.W.Frag} {mg : Str → Option Value} {base : Heap}
/-- a def by its body, no text being written around it -/
theorem fng_of {x qual : Str} {st : Stmt} {f : Addr} {fd : FuncData} {N ps : List Str} {k : Nat} {sp : Sp} (F : Fun K x qual st f fd) (S : FnScope N ps (defScope st)) (len : ∀ vs H Q E, sp vs H Q E → vs.length = ps.length)
    (hbody : ∀ (cdv : Value) (A : Around) (outer : List Env) (s : Shared) (H : Hp) (vs : List V) (Q : VK) (E : XK), A.guards = some [] → Room k (A.deeper (envOfC qual (defScope st) s.heap.objs.size f cdv)) → sp vs H Q E →
      ∃ t, PSs (cxOf (L2.CX P w) P w K mg base N qual (defScope st) f cdv A outer s H E) (defBody st) t ∧ t { nx := fun _ H' => Q .non H', rt := Q } (start N vs) H) : FnG P w K mg base (k + 1) f fd ps sp := by
  obtain ⟨oc, od, kV, doc, pm, an, cdv, ct, osl, rfl, lk, hcd⟩ := F.ex
  constructor
  · exact len
  · intro A outer s H args us vs Q E hg hr ev hb rv hsp
    have same : ∀ b o, base.get? b = some o → s.heap.get? b = some o := fun b o e => (ev.bs b o e).1
    have hK : K.In s.heap := ev.mod.kin.keeps same
    have hno : s.heap.NoLimit := ev.mod.nolimit.keeps same
    have kinds : ∀ y ∈ ps.zip us, (defScope st).names.lookup y.1 = some .local ∨ ((defScope st).names.lookup y.1 = some .cell ∧ ((cellsFrom (s.heap.objs.size + 1) (defScope st).names []).lookup y.1).isSome = true) := by
      rintro ⟨n, v⟩ hy
      exact (S.par n (List.of_mem_zip hy).1).imp id fun q => ⟨q, PySem.W.cellsFrom_some _ _ _ (.inl q)⟩
    apply codeAny_call_function hr.depth (hK _ _ lk) rfl S.co S.gen rfl (PySem.W.codeRec_of hK hcd)
    refine hb _ _ _ _ (wpAny_newFunctionEnv_cells S.kind kinds ?_)
    rintro env rfl s1 ic
    refine ⟨hno.keeps ic.toInCall.keep, codeAny_func ?_⟩
    obtain ⟨t, hps, ht⟩ := hbody cdv A outer s H vs Q E hg (hr.deeper _) hsp
    have I0 : Inv (cxOf (L2.CX P w) P w K mg base N qual (defScope st) f cdv A outer s H E) [] (start N vs) H s1 := inv_start S hr.hd ev (len _ _ _ _ hsp) rv ic
    have back : ∀ (σ' : L2.St) (H' : Hp) (v : V) (u : Value) (s' : Shared), Inv (cxOf (L2.CX P w) P w K mg base N qual (defScope st) f cdv A outer s H E) [] σ' H' s' → RelV v u → Q v H' → L2.CE outer P w H s Q u s' := by
      intro σ' H' v u s' J r q
      exact ⟨v, H', J.os, J.bare, J.base, J.hok, r, q⟩
    apply wpAny_mono (hps.run [] s1 (start N vs) H _ I0 ht)
    · intro fl s' hs
      rcases fl with _ | _ | _ | u
      · obtain ⟨σ', H', J, q⟩ := hs
        exact back σ' H' .non .none s' J rfl q
      · obtain ⟨_, _, _, q⟩ := hs; exact q.elim
      · obtain ⟨_, _, _, q⟩ := hs; exact q.elim
      · obtain ⟨v, σ', H', J, r, q⟩ := hs
        exact back σ' H' v u s' J r q
    · exact fun _ _ h => h
end
/-- the bodies, by number: a body, how many parameters, how many slots -/
abbrev Tab := List (DS × Nat × Nat)
/-- the module's defs as functions: k levels of calls, loops of at most fuel turns -/
def runP (B : Tab) (fuel : Nat) : Nat → Nat → List MV → MH → Rs MV
  | 0, _, _, _ => .stuck
  | k + 1, i, as, mh => match B[i]? with
    | some (b, np, nl) => bodyR b np nl ⟨runP B fuel k, fuel⟩ as mh
    | none => .stuck
/-- how deep expressions, statements stand -/
abbrev deepE : Nat := 40
/-- a def of the text with its denotation -/
structure DefIs (K : PySem.W.Frag) (mg : Str → Option Value) (gl : List (Str × MV)) (fs : List (Str × (Nat × List Str × List (Nat × List Str)))) (bn : List Str) (x : Str) (ps : List Str) (kws : List (Nat × List Str)) (b : DS × Nat × Nat) : Prop where
  ex : ∃ f fd N st, Fun K x x st f fd ∧ mg x = some (.ref f) ∧ FnScope N ps (defScope st) ∧ Binds K fd ps [] ∧ (∀ q ∈ kws, KwB K fd ps q.1 q.2) ∧
    cSs (cS (cE deepE) (cT deepE) deepE ⟨N, (defScope st).names, gl, fs, bn⟩) (defBody st) = some b.1 ∧ b.2.1 = ps.length ∧ b.2.2 = N.length
/-- the module, as it stands behind the top -/
structure ModIs (T : Tx) (mg : Str → Option Value) (gl : List (Str × MV)) (fs : List (Str × (Nat × List Str × List (Nat × List Str)))) (bn : List Str) (B : Tab) : Prop where
  hgl : ∀ x m, gl.lookup x = some m → ∃ v u, mg x = some u ∧ RelV v u ∧ ∀ ρ H, RV T ρ H m v
  hbn : ∀ x, bn.contains x = true → mg x = none
  hfs : ∀ x q, fs.lookup x = some q → ∃ b, B[q.1]? = some b ∧ DefIs T.K mg gl fs bn x q.2.1 q.2.2 b
section
variable {P : Program} {w : World} {T : Tx} {mg : Str → Option Value} {gl : List (Str × MV)} {fs : List (Str × (Nat × List Str × List (Nat × List Str)))} {bn : List Str} {B : Tab}
theorem rst_start {ρ : List Addr} {H : Hp} {N : List Str} {as : List MV} {vs : List V} (r : RVs T ρ H as vs) (hl : as.length ≤ N.length) : RSt T ρ H (as.map some ++ List.replicate (N.length - as.length) none) (start N vs) := by
  refine ⟨?_, fun i m q => ?_⟩
  · unfold start
    simp [r.len]
  · have hi : i < as.length := by
      by_cases hi : i < as.length
      · exact hi
      · rw [List.getElem?_append_right (by simpa using hi), List.getElem?_replicate] at q
        split at q <;> cases q
    rw [List.getElem?_append_left (by simpa using hi), List.getElem?_map] at q
    cases e : as[i]? with
    | none => rw [e] at q; cases q
    | some a =>
      rw [e] at q
      cases q
      obtain ⟨v, ev, rv⟩ := r.get e
      refine ⟨v, ?_, rv⟩
      unfold start
      rw [List.getElem?_append_left (by simpa [r.len] using hi), List.getElem?_map, ev]; rfl
theorem prog_ok (M : ModIs T mg gl fs bn B) (fuel : Nat) : ∀ k : Nat, ∀ x q, fs.lookup x = some q → ∃ f fd, (∀ base : Heap, FnG P w T.K mg base k f fd q.2.1 (spOf T (runP B fuel k q.1) q.2.1.length)) ∧ mg x = some (.ref f) ∧ PySem.W.keepIn T.K (.ref f) = true ∧ Binds T.K fd q.2.1 [] ∧ ∀ z ∈ q.2.2, KwB T.K fd q.2.1 z.1 z.2 := by
  intro k
  induction k with
  | zero =>
    intro x q e
    obtain ⟨b, _, D⟩ := M.hfs x q e
    obtain ⟨f, fd, N, st, F, hm, _, hb, hk, _⟩ := D.ex
    exact ⟨f, fd, fun base => ⟨fun _ _ _ _ h => h.1, fun A outer s H args us vs Q E hg hr ev bd rv hsp => (by
      obtain ⟨_, ρ, as, mh, _, _, w⟩ := hsp
      exact w.elim)⟩, hm, F.kp, hb, hk⟩
  | succ k ih =>
    intro x q e
    obtain ⟨⟨b, np, nl⟩, eb, D⟩ := M.hfs x q e
    obtain ⟨f, fd, N, st, F, hm, S, hb, hk, hc, h1, h2⟩ := D.ex
    dsimp only at hc h1 h2
    refine ⟨f, fd, ?_, hm, F.kp, hb, hk⟩
    refine fun base => fng_of F S (fun _ _ _ _ h => h.1) fun cdv A outer s H vs Q E hg hr ⟨hl, ρ, as, mh, rh, ra, wn⟩ => ?_
    have ok : OkS ⟨N, (defScope st).names, gl, fs, bn⟩ T ⟨runP B fuel k, fuel⟩ (fun c d _ H' => E c d H') (cxOf (L2.CX P w) P w T.K mg base N x (defScope st) f cdv A outer s H E) :=
      { K := rfl
        nm := ⟨rfl, S.nd, fun _ h => h, fun _ h => h, fun _ h => .inl h, fun _ h => h, fun _ _ => rfl⟩
        cm := rfl
        gd := hg
        un := by
          have := hr.un
          show (A.deeper (envOfC x (defScope st) s.heap.objs.size f cdv)).units + 200 < cLine
          omega
        tk := takes_of rfl rfl rfl rfl
        gl := M.hgl
        bn := M.hbn
        fs := fun y q2 e2 => by
          obtain ⟨f2, fd2, F2, m2, k2, b2, kw2⟩ := ih y q2 e2
          exact ⟨⟨k, f2, fd2, F2 base, hr, m2, k2, b2, kw2⟩⟩
        po := passes_of rfl }
    refine ⟨_, cSs_ok (fun st' d q' => cS_ok (c_ok deepE).1 (c_sc deepE) (c_ok deepE).2 deepE _ st' d q' T _ _ _ ok) hc, ?_⟩
    have w0 := wn
    unfold runP at w0
    rw [eb] at w0
    dsimp only at w0
    unfold bodyR at w0
    split at w0
    · rename_i hn
      have hn := Nat.eq_of_beq_eq_true hn
      have hle : as.length ≤ N.length := by
        have := congrArg List.length S.pre
        rw [List.length_take] at this
        rw [hn, h1]; omega
      have hns : nl - np = N.length - as.length := by rw [h2, hn]
      rw [hns] at w0
      refine ⟨ρ, _, mh, rh, rst_start ra hle, ?_⟩
      split at w0
      · rename_i en; rw [en]; exact fun σ' ρ' H' x1 x2 x3 => w0 .non ρ' H' x1 x2 .non
      · rename_i en; rw [en]; exact fun z ρ' H' x1 x2 x3 => w0 z ρ' H' x1 x2 x3
      · rename_i en; rw [en]; exact fun c dd σ' ρ' H' x1 x2 x3 x4 => w0 c dd ρ' H' x1 x2 x3
      · exact w0.elim
    · exact w0.elim
end
end Vf
end L2
end
section
/-! VP: the end of a law. -/
namespace L2
namespace Vf
open PySem PySem.Spec PyProof.Rows
section
variable {P : Program} {w : World} {K : PySem.W.Frag} {mg mb : Str → Option Value} {k : Nat} {fa a : Addr} {fd : FuncData} {x : Str} {sp : Sp} {s₁ : Shared} {vs : List Value} {ns : List Int}
/-- the abstract heap at the law's entry: the script alone, or nothing -/
structure Entry (P : Program) (w : World) (K : PySem.W.Frag) (s₁ : Shared) (a : Addr) (ns : List Int) (H : Hp) : Prop where
  only : ∀ b u, H b = some u → b = a ∧ ∃ o xs, u = .frz o (.lst xs)
  ok : HOk P w H s₁.heap
  fl : (∃ o, H a = some (.frz o (.lst (ns.map V.int)))) ∨ ((∃ (o : Obj) (its : Array Value) (n : Nat), K.lookup a = some o ∧ o.cls = .type "list" ∧ o.dict = none ∧ o.data = .seq its n ∧ its.size ≤ sizeLine ∧ Vals (ns.map V.int) its.toList) ∧ ∀ b, H b = none)
  nk : H a ≠ none → K.lookup a = none
theorem entry_of (KX : K.In s₁.heap) (ha : s₁.heap.get? a = some { cls := .type "list", data := .seq vs.toArray }) (hi : IntsAre vs ns) (hl : ns.length ≤ sizeLine) : ∃ H, Entry P w K s₁ a ns H := by
  have rv := vals_ints hi
  cases hk : K.lookup a with
  | some o =>
    have e := KX a o hk
    rw [ha] at e
    cases e
    exact ⟨fun _ => none, fun b u z => (by cases z), fun b u z => (by cases z), .inr ⟨⟨_, vs.toArray, _, hk, rfl, rfl, rfl, by rw [List.size_toArray, hi.length]; exact hl, by simpa using rv⟩, fun _ => rfl⟩, fun z => absurd rfl z⟩
  | none =>
    let ob : Obj := { cls := .type "list", data := .seq vs.toArray }
    let H : Hp := upd (fun _ => none) a (.frz ob (.lst (ns.map V.int)))
    have only : ∀ b u, H b = some u → b = a ∧ u = .frz ob (.lst (ns.map V.int)) := fun b u z => by
      by_cases hb : b = a
      · subst hb
        rw [show H b = some _ from upd_same] at z
        cases z
        exact ⟨rfl, rfl⟩
      · rw [show H b = none from upd_ne hb] at z
        cases z
    refine ⟨H, fun b u z => ?_, fun b u z => ?_, .inl ⟨ob, upd_same⟩, fun _ => hk⟩
    · obtain ⟨h1, h2⟩ := only b u z
      exact ⟨h1, ob, _, h2⟩
    · obtain ⟨rfl, rfl⟩ := only b u z
      exact ⟨ha, by rw [List.length_map]; exact hl, vs, _, rv, ha⟩
theorem law_callG (KX : K.In s₁.heap) (hns : s₁.heap.Ns mainGlobals mg) (hb : s₁.heap.Ns builtinsNs mb) (hbb : ∀ x : Str, x ≠ "__name__" → mb x = bootBuiltins x) (hlim : s₁.heap.NoLimit) (hg : s₁.gens = #[])
    (ha : s₁.heap.get? a = some { cls := .type "list", data := .seq vs.toArray }) (hi : IntsAre vs ns) (hl : ns.length ≤ sizeLine) (hr : Room k callerA)
    (F : ∀ base : Heap, K.In base → base.Ns mainGlobals mg → FnG P w K mg base k fa fd [x] sp) (hbind : Binds K fd [x] [])
    (hsp : ∀ H : Hp, Entry P w K s₁ a ns H → sp [.ref a] H (fun v _ => v = .bl true) fun _ _ _ => False) :
    codeAny (model P w) callerA (.call (.ref fa) ⟨[.ref a], []⟩) (fun r s' => r = .ok (.ret (.bool true)) ∧ OldK s₁.heap s'.heap ∧ s'.os = s₁.os ∧ AllBare s'.gens) s₁ := by
  obtain ⟨H, hH⟩ := entry_of (P := P) (w := w) KX ha hi hl
  -- what isn't the script is a part of the base
  have keep : ∀ {b : Addr} {o : Obj}, s₁.heap.get? b = some o → H b = none → (hidT s₁.heap H).get? b = some o := fun e n => hidT_get e n
  have notA : ∀ {b : Addr} {o : Obj} {es : Array DictEntry} {ep : Nat}, s₁.heap.get? b = some o → o.data = .dict es ep → H b = none := by
    intro b o es ep e d
    cases q : H b with
    | none => rfl
    | some u =>
      obtain ⟨rfl, _⟩ := hH.only b u q
      rw [ha] at e
      cases e
      cases (show Data.seq vs.toArray _ = Data.dict es ep from d)
  have ns' : ∀ {b : Addr} {m : Str → Option Value}, s₁.heap.Ns b m → (hidT s₁.heap H).Ns b m := by
    rintro b m ⟨o, es, ep, e, d, r⟩
    exact ⟨o, es, ep, keep e (notA e d), d, r⟩
  have KB : K.In (hidT s₁.heap H) := by
    intro b o e
    refine keep (KX b o e) ?_
    cases q : H b with
    | none => rfl
    | some u =>
      obtain ⟨rfl, _⟩ := hH.only b u q
      rw [hH.nk (by rw [q]; simp)] at e
      cases e
  obtain ⟨mc, l1, l2⟩ := hlim
  have ev : Env0 P w K mg (hidT s₁.heap H) callerA [] s₁ H :=
    { frames := rfl, mod := ⟨KB, ns' hns, ⟨mb, ns' hb, hbb⟩, ⟨mc, ns' l1, l2⟩⟩, bs := fun b o e => of_hidT e, bsz := Nat.le_of_eq (hidT_size _ _), funs := trivial, frf := fun b z => (by cases z), hok := hH.ok, bare := .of_eq hg }
  apply codeAny_mono ((F _ KB (ns' hns)).run callerA [] s₁ H ⟨[.ref a], []⟩ [.ref a] [.ref a] _ _ rfl hr ev (hbind s₁ [.ref a] KX rfl) (.cons rfl .nil) (hsp H hH))
  intro r s' h
  rcases r with e | (_ | _ | _ | u)
  · obtain ⟨_, _, _, _, _, _, _, _, _, _, _, _, z⟩ := h
    exact z.elim
  · exact h.elim
  · exact h.elim
  · exact h.elim
  · obtain ⟨v, H', os, bare, un, hok', rv, q⟩ := h
    have q : v = .bl true := q
    subst q
    obtain rfl : u = Value.bool true := rv
    refine ⟨rfl, OldK.of_keep ?_, os, bare⟩
    intro b o e
    cases q : H b with
    | none => exact un.keep b o e q (fun z => by cases z) (fun z => by cases z)
    | some u =>
      obtain ⟨_, ob, xs, rfl⟩ := hH.only b u q
      obtain ⟨e1, _⟩ := hH.ok b _ q
      obtain ⟨e2, _⟩ := hok' b _ (un.frzs b ob _ q)
      rw [e] at e1
      cases e1
      exact e2
end
/-- the script, as an own value -/
theorem entry_rv {P : Program} {w : World} {T : Tx} {s₁ : Shared} {a : Addr} {ns : List Int} {H : Hp} (h : Entry P w T.K s₁ a ns H) : RV T [] H (.fl (ns.map .int)) (.ref a) := by
  unfold RV
  refine ⟨a, ns.map V.int, rfl, ?_, .ints⟩
  rcases h.fl with h1 | ⟨h1, _⟩
  · exact .inl ⟨h1, by simp⟩
  · exact .inr h1
theorem rh_nil {T : Tx} {H : Hp} : RH T [] [] H := ⟨rfl, List.nodup_nil, fun n a o e => by simp at e⟩
/-- a law's end: its denotation says True at every script -/
theorem walk_ofG {l : PySem.W.OpenLaw} {n k : Nat} {q : Program} {loose : List Str} {XP : (Str → Option Value) → Heap → Prop} {YP : World → Heap → Prop} {d : DefRec} {x : Str}
    (hn : l.most = some n) (hn2 : n ≤ sizeLine) (hdf : d.params.defaults = []) (hr : Room k callerA)
    (F : ∀ (w : World) (mg : Str → Option Value) (fa : Addr) (h : Heap), YP w h → h.Ns mainGlobals mg → mg d.name = some (.ref fa) →
      ∃ (T : Tx) (fd : FuncData) (cl : List MV → MH → Rs MV), T.K.In h ∧ Binds T.K fd [x] [] ∧
        (∀ ns : List Int, ns.length ≤ n → ∃ mh, cl [.fl (ns.map .int)] [] = .ok (.bl true) mh) ∧
        ∀ base : Heap, T.K.In base → base.Ns mainGlobals mg → FnG l.prog w T.K mg base k fa fd [x] (spOf T cl 1)) :
    PySem.W.WalkO q loose XP YP l.row.toRowW d [] (fun f vs => PySem.call f vs) := by
  refine Att.attach_call hn hdf fun w s₀ s₁ mg mb fa o pm cd doc a vs ns G Y ho hd hcd hmg hobj hints hlen hg => ?_
  obtain ⟨T, fd, cl, KX, hb, hcl, hF⟩ := F w mg fa _ Y G.T.g hmg
  refine law_callG KX G.T.g G.T.b G.T.builtins G.T.nolimit hg hobj hints (Nat.le_trans hlen hn2) hr hF hb fun H hH => ?_
  obtain ⟨mh, e⟩ := hcl ns hlen
  refine ⟨rfl, [], [.fl (ns.map .int)], [], rh_nil, .cons (entry_rv hH) .nil, ?_⟩
  rw [e]
  intro v ρ' H' _ _ rv
  unfold RV at rv
  exact rv
end Vf
end L2
end
section
/-! VQ: from the head's facts to the module. -/
namespace L2
namespace Vf
open PySem PySem.Spec PyProof.Rows
section
variable {K : PySem.W.Frag} {mg : Str → Option Value} {h : Heap} {x : Str} {st : Stmt} {f : Addr} {fd : FuncData} {ps : List Str}
theorem fun_of (F : FunD K x x (defArgs st) (defBody st) (defScope st) [] [] f fd) : Fun K x x st f fd := by
  obtain ⟨oc, od, dV, kV, doc, pm, an, cdv, ct, osl, e, lk, hcd, hD, _⟩ := F.ex
  rcases hD with ⟨_, rfl⟩ | ⟨z, _⟩
  · exact ⟨⟨oc, od, kV, doc, pm, an, cdv, ct, osl, e, lk, hcd⟩, F.kp⟩
  · exact absurd rfl z
theorem kwB_of {n : Nat} {ks : List Str} (F : FunD K x x (defArgs st) (defBody st) (defScope st) [] [] f fd)
    (hb : ∀ (kV doc pm : Value) (an : Option Addr) (cdv ct : Value) (us ws : List Value), us.length = n → ws.length = ks.length → bindArgs (PySem.W.fnOf x x (defArgs st) (defBody st) (defScope st) .none kV doc pm an cdv ct) ⟨us, ks.zip ws⟩ = pure (ps.zip (us ++ kwIn (ps.drop n) ks ws))) : KwB K fd ps n ks := by
  obtain ⟨oc, od, dV, kV, doc, pm, an, cdv, ct, osl, rfl, lk, hcd, hD, hK⟩ := F.ex
  rcases hD with ⟨_, rfl⟩ | ⟨e, _⟩
  · exact fun s us ws _ h1 h2 => BindsTo.of_eq (hb kV doc pm an cdv ct us ws h1 h2)
  · exact absurd rfl e
/-- a def of the row's top, by the head's facts -/
theorem defIs_of {gl : List (Str × MV)} {fs : List (Str × (Nat × List Str × List (Nat × List Str)))} {bn : List Str} {N : List Str} {kws : List (Nat × List Str)} {d : DS}
    (F : FunD K x x (defArgs st) (defBody st) (defScope st) [] [] f fd) (hm : mg x = some (.ref f)) (S : FnScope N ps (defScope st)) (hb : Binds K fd ps []) (hk : ∀ q ∈ kws, KwB K fd ps q.1 q.2)
    (hc : cSs (cS (cE deepE) (cT deepE) deepE ⟨N, (defScope st).names, gl, fs, bn⟩) (defBody st) = some d) : DefIs K mg gl fs bn x ps kws (d, ps.length, N.length) :=
  ⟨f, fd, N, st, fun_of F, hm, S, hb, hk, hc, rfl, rfl⟩
end
theorem mem_of_lookup {α : Type} {x : Str} {v : α} : ∀ {l : List (Str × α)}, l.lookup x = some v → (x, v) ∈ l
  | [], h => by cases h
  | (y, u) :: r, h => by
    rw [List.lookup_cons] at h
    cases e : x == y with
    | true =>
      rw [e] at h
      have := eq_of_beq e
      subst this
      cases h
      exact List.mem_cons_self
    | false =>
      rw [e] at h
      exact List.mem_cons_of_mem _ (mem_of_lookup h)
def GlOk (T : Tx) (mg : Str → Option Value) (p : Str × MV) : Prop := ∃ v u, mg p.1 = some u ∧ RelV v u ∧ ∀ ρ H, RV T ρ H p.2 v
section
variable {T : Tx} {mg : Str → Option Value} {h : Heap} {x : Str}
theorem gl_int (X : T.K.In h) (G : h.Ns mainGlobals mg) {i : Int} (c : (He.Fa.int x i).ok T.K = true) : GlOk T mg (x, .int i) := by
  obtain ⟨t, e⟩ := He.int_ok X G c
  exact ⟨.int i, _, e, ⟨t, rfl⟩, fun ρ H => by unfold RV; rfl⟩
theorem gl_str (X : T.K.In h) (G : h.Ns mainGlobals mg) {cs : List Nat} (c : (He.Fa.str x (S cs)).ok T.K = true) : GlOk T mg (x, .str cs) := by
  obtain ⟨t, e⟩ := He.str_ok X G c
  exact ⟨.str (S cs), _, e, ⟨t, rfl⟩, fun ρ H => by unfold RV; rfl⟩
theorem modIs_of {gl : List (Str × MV)} {fs : List (Str × (Nat × List Str × List (Nat × List Str)))} {bn : List Str} {B : Tab}
    (h1 : ∀ p ∈ gl, GlOk T mg p) (h2 : ∀ y ∈ bn, mg y = none) (h3 : ∀ q ∈ fs, ∃ b, B[q.2.1]? = some b ∧ DefIs T.K mg gl fs bn q.1 q.2.2.1 q.2.2.2 b) : ModIs T mg gl fs bn B :=
  ⟨fun x m e => h1 _ (mem_of_lookup e), fun x e => h2 x (List.contains_iff_mem.mp e), fun x q e => h3 _ (mem_of_lookup e)⟩
end
theorem fa_all {fa : List He.Fa} {fn : List He.DefD} {K : PySem.W.Frag} (c : He.SaysD fa fn K) {f : He.Fa} (m : f ∈ fa) : f.ok K = true := by
  obtain ⟨i, hi⟩ := List.mem_iff_getElem?.mp m
  exact c.fact i hi
end Vf
end L2
end
section
/-! VR: plain lemmas of the denotations. -/
namespace L2
namespace Vf
open PySem PySem.Spec PyProof.Rows
section
variable {c : DB} {b : DS} {g : DG} {rt : Rt} {n i : Nat} {env env2 env3 : Env'} {mh mh1 mh2 mh3 : MH} {v w : MV} {nxt : Nxt}
theorem whileL_true (hc : c rt env mh = .ok true mh1) (hb : b rt env mh1 = .nx env2 mh2) : whileL c b rt (n + 1) env mh = whileL c b rt n env2 mh2 := by
  rw [whileL, hc]
  simp only [toS, hb]
theorem whileL_ct (hc : c rt env mh = .ok true mh1) (hb : b rt env mh1 = .ct env2 mh2) : whileL c b rt (n + 1) env mh = whileL c b rt n env2 mh2 := by
  rw [whileL, hc]
  simp only [toS, hb]
theorem whileL_false (hc : c rt env mh = .ok false mh1) : whileL c b rt (n + 1) env mh = .nx env mh1 := by
  rw [whileL, hc]
  simp only [toS]
theorem whileL_rt (hc : c rt env mh = .ok true mh1) (hb : b rt env mh1 = .rt v mh2) : whileL c b rt (n + 1) env mh = .rt v mh2 := by
  rw [whileL, hc]
  simp only [toS, hb]
theorem whileL_bk (hc : c rt env mh = .ok true mh1) (hb : b rt env mh1 = .bk env2 mh2) : whileL c b rt (n + 1) env mh = .nx env2 mh2 := by
  rw [whileL, hc]
  simp only [toS, hb]
theorem forL_end (hn : nxt i mh = some none) : forL nxt g b rt (n + 1) i env mh = .nx env mh := by
  rw [forL, hn]
theorem forL_next (hn : nxt i mh = some (some v)) (hg : g rt v env mh = .nx env2 mh2) (hb : b rt env2 mh2 = .nx env3 mh3) : forL nxt g b rt (n + 1) i env mh = forL nxt g b rt n (i + 1) env3 mh3 := by
  rw [forL, hn]
  simp only [hg, hb]
theorem forL_rt (hn : nxt i mh = some (some v)) (hg : g rt v env mh = .nx env2 mh2) (hb : b rt env2 mh2 = .rt w mh3) : forL nxt g b rt (n + 1) i env mh = .rt w mh3 := by
  rw [forL, hn]
  simp only [hg, hb]
end
theorem getM_nat (xs : List MV) (n : Nat) : getM xs ((n : Nat) : Int) = xs[n]? := rfl
theorem getC_nat (xs : List Nat) (n : Nat) : getC xs ((n : Nat) : Int) = xs[n]? := rfl
theorem getC_nat1 (xs : List Nat) (n : Nat) : getC xs ((n : Nat) + 1 : Int) = xs[n + 1]? := rfl
theorem getC_nat2 (xs : List Nat) (n m : Nat) : getC xs ((n : Nat) + (m : Nat) : Int) = xs[n + m]? := rfl
theorem cutG_nat {α : Type} (xs : List α) (a b : Nat) : cutG xs (some (a : Int)) (some (b : Int)) = (xs.drop a).take (b - a) := by
  unfold cutG
  rw [HT.sIx_nat, HT.sIx_nat]
  by_cases ha : a ≤ xs.length
  · rw [Nat.min_eq_left ha]
    by_cases hb : b ≤ xs.length
    · rw [Nat.min_eq_left hb]
    · have e : min b xs.length = xs.length := by omega
      rw [e, List.take_of_length_le (by simp), List.take_of_length_le (by simp; omega)]
  · have e : min a xs.length = xs.length := by omega
    rw [e, List.drop_of_length_le (Nat.le_refl _), List.drop_of_length_le (by omega)]
    simp
theorem cutG_from {α : Type} (xs : List α) (a : Nat) : cutG xs (some (a : Int)) none = xs.drop a := by
  unfold cutG
  rw [HT.sIx_nat, HT.sIx_none]
  by_cases ha : a ≤ xs.length
  · rw [Nat.min_eq_left ha, List.take_of_length_le (by simp)]
  · have e : min a xs.length = xs.length := by omega
    rw [e, List.drop_of_length_le (Nat.le_refl _), List.drop_of_length_le (by omega)]
    simp
theorem beqL_iff (a b : List Nat) : beqL a b = decide (a = b) := by
  induction a generalizing b with
  | nil => cases b <;> simp [beqL]
  | cons x xs ih => cases b with
    | nil => simp [beqL]
    | cons y ys => simp [beqL, ih, Bool.decide_and, Nat.beq_eq]; by_cases h : x = y <;> simp [h]
/-- a comprehension whose turns all come, with an invariant of the heap -/
theorem lcL_all {nxt : Nxt} {g : DG} {te : DE} {rt : Rt} {env : Env'} {Pv : MV → Prop} (I : Nat → MH → Prop) (N : Nat) (hN : N ≤ 16777216)
    (hstep : ∀ i mh, i < N → I i mh → ∃ v e w mh', nxt i mh = some (some v) ∧ g rt v env mh = .nx e mh ∧ te rt e mh = .ok w mh' ∧ Pv w ∧ I (i + 1) mh') (hend : ∀ mh, I N mh → nxt N mh = some none) :
    ∀ m i n acc mh, i + m = N → m < n → I i mh → (∀ v ∈ acc, Pv v) → ∃ xs mh', lcL nxt g yesD te rt env n i acc mh = some (xs, mh') ∧ (∀ v ∈ xs, Pv v) ∧ I N mh'
  | 0, i, n + 1, acc, mh, h1, h2, hI, ha => by
    have e : i = N := by omega
    subst e
    rw [lcL, hend mh hI]
    exact ⟨_, _, rfl, fun v hv => ha v (List.mem_reverse.mp hv), hI⟩
  | m + 1, i, n + 1, acc, mh, h1, h2, hI, ha => by
    obtain ⟨v, e, w, mh', q1, q2, q3, q4, q5⟩ := hstep i mh (by omega) hI
    have hb : Nat.blt i lim = true := by rw [Nat.blt_eq]; show i < 16777216; omega
    rw [lcL, q1]
    simp only [q2, yesD, q3, hb, if_true]
    exact lcL_all I N hN hstep hend m (i + 1) n (w :: acc) mh' (by omega) (by omega) q5 fun x hx => by
      rcases List.mem_cons.mp hx with rfl | hx
      · exact q4
      · exact ha x hx
theorem allB_true : ∀ {xs : List MV}, (∀ v ∈ xs, v = .bl true) → allB xs = some true
  | [], _ => rfl
  | v :: xs, h => by
    rw [h v List.mem_cons_self, allB, allB_true fun x hx => h x (List.mem_cons_of_mem _ hx)]
    rfl
end Vf
end L2
end
section
namespace L2
namespace K11
open PySem PySem.Spec PyProof.Rows L2.Vf
abbrev topS (i : Nat) : Stmt := PySem.Challenge.pw_lastremains_k11_whole_words_of_programs.main.body.getD i (.Pass ⟨0, 0, 0, 0⟩)
def g_SIGNS : MV := (.str [40, 41, 44, 61, 60, 43, 46])
def g_FIGURES : MV := (.str [48, 49, 50, 51, 52, 53, 54, 55, 56, 57])
def g_LETTERS : MV := (.str [97, 98, 99, 100, 101, 102, 103, 104, 105, 106, 107, 108, 109, 110, 111, 112, 113, 114, 115, 116, 117, 118, 119, 120, 121, 122])
def g_MOST_TEXT : MV := (.int 20000)
def g_MOST_WORDS : MV := (.int 3000)
def g_MOST_LETTERS : MV := (.int 20)
def gl : List (Str × MV) := [("SIGNS", g_SIGNS), ("FIGURES", g_FIGURES), ("LETTERS", g_LETTERS), ("MOST_TEXT", g_MOST_TEXT), ("MOST_WORDS", g_MOST_WORDS), ("MOST_LETTERS", g_MOST_LETTERS)]
def fs : List (Str × (Nat × List Str × List (Nat × List Str))) := [("is_text", (0, ["value"], [])),
  ("want_text", (1, ["text"], [])),
  ("word_size", (2, ["text", "at"], [])),
  ("behind_remark", (3, ["text", "at"], [])),
  ("taken_apart", (4, ["text"], [])),
  ("want_few_words", (5, ["words"], [])),
  ("text_words", (6, ["text"], [(0, ["text"])])),
  ("wrong_sign", (7, ["text"], [(0, ["text"])])),
  ("_law_pot", (8, ["script", "k"], [])),
  ("_law_draw", (9, ["pot", "many"], [])),
  ("_law_pick", (10, ["pot", "some"], [])),
  ("_law_length", (11, ["rest"], [])),
  ("_law_taken", (12, ["text"], [])),
  ("_law_drawn", (13, ["pot"], [])),
  ("_law_text_right", (14, ["text"], [])),
  ("law", (15, ["script"], []))]
def bn : List Str := ["abs", "all", "divmod", "enumerate", "int", "isinstance", "len", "max", "min", "range", "repr", "str"]
/-! is_text -/
abbrev s_is_text : Stmt := topS 12
def n_is_text : List Str := ["value"]
def d_is_text : DS := (seqS (retS (andV (opND isiN (consD (varD 0) (consD (conD (.ty 3)) nilD))) (op2D leM (opND lenN (consD (varD 0) nilD)) (conD g_MOST_TEXT)))) passS)
set_option maxRecDepth 100000 in
theorem c_is_text : cSs (cS (cE deepE) (cT deepE) deepE ⟨n_is_text, (defScope s_is_text).names, gl, fs, bn⟩) (defBody s_is_text) = some d_is_text := by kernel_rfl
theorem sc_is_text : FnScope n_is_text ["value"] (defScope s_is_text) := ⟨by kernel_rfl, by kernel_rfl, by kernel_rfl, by decide +kernel, by kernel_rfl, by decide +kernel, by decide +kernel⟩
/-! want_text -/
abbrev s_want_text : Stmt := topS 13
def n_want_text : List Str := ["text"]
def d_want_text : DS := (seqS (ifS (notD (truD (callD 0 1 (consD (varD 0) nilD)))) (seqS stuckS passS) passS) passS)
set_option maxRecDepth 100000 in
theorem c_want_text : cSs (cS (cE deepE) (cT deepE) deepE ⟨n_want_text, (defScope s_want_text).names, gl, fs, bn⟩) (defBody s_want_text) = some d_want_text := by kernel_rfl
theorem sc_want_text : FnScope n_want_text ["text"] (defScope s_want_text) := ⟨by kernel_rfl, by kernel_rfl, by kernel_rfl, by decide +kernel, by kernel_rfl, by decide +kernel, by decide +kernel⟩
/-! word_size -/
abbrev s_word_size : Stmt := topS 14
def n_word_size : List Str := ["text", "at", "size"]
def wc_word_size_0 : DB := (andD (boolD (op2D ltM (varD 2) (conD g_MOST_LETTERS))) (andD (boolD (op2D ltM (op2D addM (varD 1) (varD 2)) (opND lenN (consD (varD 0) nilD)))) (boolD (op2D inM (op2D ixM (varD 0) (op2D addM (varD 1) (varD 2))) (op2D addM (conD g_LETTERS) (conD g_FIGURES))))))
def wb_word_size_1 : DS := (seqS (setS 2 (op2D addM (varD 2) (conD (.int 1)))) passS)
def d_word_size : DS := (seqS (ifS (orD (boolD (op2D inM (op2D ixM (varD 0) (varD 1)) (conD g_SIGNS))) (boolD (op2D eqM (op2D ixM (varD 0) (varD 1)) (conD (.str [48]))))) (seqS (retS (conD (.int 1))) passS) passS) (seqS (ifS (boolD (op2D inM (op2D ixM (varD 0) (varD 1)) (conD g_FIGURES))) (seqS (retS (ifD (andD (boolD (op2D neM (sliceD (varD 0) (partD (op2D addM (varD 1) (conD (.int 1)))) (partD (op2D addM (varD 1) (conD (.int 2))))) (conD (.str [])))) (boolD (op2D inM (op2D ixM (varD 0) (op2D addM (varD 1) (conD (.int 1)))) (conD g_FIGURES)))) (conD (.int 2)) (conD (.int 1)))) passS) passS) (seqS (ifS (boolD (op2D notinM (op2D ixM (varD 0) (varD 1)) (conD g_LETTERS))) (seqS (retS (conD (.int 0))) passS) passS) (seqS (setS 2 (conD (.int 1))) (seqS (whileS wc_word_size_0 wb_word_size_1) (seqS (retS (varD 2)) passS))))))
set_option maxRecDepth 100000 in
theorem c_word_size : cSs (cS (cE deepE) (cT deepE) deepE ⟨n_word_size, (defScope s_word_size).names, gl, fs, bn⟩) (defBody s_word_size) = some d_word_size := by kernel_rfl
theorem sc_word_size : FnScope n_word_size ["text", "at"] (defScope s_word_size) := ⟨by kernel_rfl, by kernel_rfl, by kernel_rfl, by decide +kernel, by kernel_rfl, by decide +kernel, by decide +kernel⟩
/-! behind_remark -/
abbrev s_behind_remark : Stmt := topS 15
def n_behind_remark : List Str := ["text", "at", "found"]
def d_behind_remark : DS := (seqS (setS 2 (methD isStrM findM (varD 0) (consD (conD (.str [10])) (consD (varD 1) nilD)))) (seqS (retS (ifD (boolD (op2D ltM (varD 2) (conD (.int 0)))) (opND lenN (consD (varD 0) nilD)) (varD 2))) passS))
set_option maxRecDepth 100000 in
theorem c_behind_remark : cSs (cS (cE deepE) (cT deepE) deepE ⟨n_behind_remark, (defScope s_behind_remark).names, gl, fs, bn⟩) (defBody s_behind_remark) = some d_behind_remark := by kernel_rfl
theorem sc_behind_remark : FnScope n_behind_remark ["text", "at"] (defScope s_behind_remark) := ⟨by kernel_rfl, by kernel_rfl, by kernel_rfl, by decide +kernel, by kernel_rfl, by decide +kernel, by decide +kernel⟩
/-! taken_apart -/
abbrev s_taken_apart : Stmt := topS 16
def n_taken_apart : List Str := ["text", "found", "line", "begin", "at", "size"]
def wc_taken_apart_0 : DB := (boolD (op2D ltM (varD 4) (opND lenN (consD (varD 0) nilD))))
def wb_taken_apart_1 : DS := (seqS (ifS (boolD (op2D eqM (op2D ixM (varD 0) (varD 4)) (conD (.str [10])))) (seqS (par3S 2 3 4 (consD (op2D addM (varD 2) (conD (.int 1))) (consD (op2D addM (varD 4) (conD (.int 1))) (consD (op2D addM (varD 4) (conD (.int 1))) nilD)))) passS) (seqS (ifS (boolD (op2D eqM (op2D ixM (varD 0) (varD 4)) (conD (.str [32])))) (seqS (setS 4 (op2D addM (varD 4) (conD (.int 1)))) passS) (seqS (ifS (boolD (op2D eqM (op2D ixM (varD 0) (varD 4)) (conD (.str [35])))) (seqS (setS 4 (callD 3 2 (consD (varD 0) (consD (varD 4) nilD)))) passS) (seqS (setS 5 (callD 2 2 (consD (varD 0) (consD (varD 4) nilD)))) (seqS (ifS (boolD (op2D eqM (varD 5) (conD (.int 0)))) (seqS (retS (opND tupM (consD (varD 1) (consD (opND tupM (consD (varD 2) (consD (op2D subM (varD 4) (varD 3)) nilD))) (consD (opND tupM (consD (varD 2) (consD (op2D subM (varD 4) (varD 3)) nilD))) nilD))))) passS) passS) (seqS (exprS (methD isLstM appendM (varD 1) (consD (opND tupM (consD (sliceD (varD 0) (partD (varD 4)) (partD (op2D addM (varD 4) (varD 5)))) (consD (varD 2) (consD (op2D subM (varD 4) (varD 3)) nilD)))) nilD))) (seqS (setS 4 (op2D addM (varD 4) (varD 5))) passS))))) passS)) passS)) passS)
def d_taken_apart : DS := (seqS (asgS (opND tupM (consD (opND lstM nilD) (consD (conD (.int 0)) (consD (conD (.int 0)) (consD (conD (.int 0)) nilD))))) (tupG 4 (consG (nameG 1) (consG (nameG 2) (consG (nameG 3) (consG (nameG 4) nilG)))))) (seqS (whileS wc_taken_apart_0 wb_taken_apart_1) (seqS (retS (opND tupM (consD (varD 1) (consD (conD .non) (consD (opND tupM (consD (varD 2) (consD (op2D subM (varD 4) (varD 3)) nilD))) nilD))))) passS)))
set_option maxRecDepth 100000 in
theorem c_taken_apart : cSs (cS (cE deepE) (cT deepE) deepE ⟨n_taken_apart, (defScope s_taken_apart).names, gl, fs, bn⟩) (defBody s_taken_apart) = some d_taken_apart := by kernel_rfl
theorem sc_taken_apart : FnScope n_taken_apart ["text"] (defScope s_taken_apart) := ⟨by kernel_rfl, by kernel_rfl, by kernel_rfl, by decide +kernel, by kernel_rfl, by decide +kernel, by decide +kernel⟩
/-! want_few_words -/
abbrev s_want_few_words : Stmt := topS 17
def n_want_few_words : List Str := ["words"]
def d_want_few_words : DS := (seqS (ifS (boolD (op2D gtM (opND lenN (consD (varD 0) nilD)) (conD g_MOST_WORDS))) (seqS stuckS passS) passS) passS)
set_option maxRecDepth 100000 in
theorem c_want_few_words : cSs (cS (cE deepE) (cT deepE) deepE ⟨n_want_few_words, (defScope s_want_few_words).names, gl, fs, bn⟩) (defBody s_want_few_words) = some d_want_few_words := by kernel_rfl
theorem sc_want_few_words : FnScope n_want_few_words ["words"] (defScope s_want_few_words) := ⟨by kernel_rfl, by kernel_rfl, by kernel_rfl, by decide +kernel, by kernel_rfl, by decide +kernel, by decide +kernel⟩
/-! text_words -/
abbrev s_text_words : Stmt := topS 18
def n_text_words : List Str := ["text", "words"]
def d_text_words : DS := (seqS (exprS (callD 1 1 (consD (varD 0) nilD))) (seqS (setS 1 (op2D ixM (callD 4 1 (consD (varD 0) nilD)) (conD (.int 0)))) (seqS (exprS (callD 5 1 (consD (varD 1) nilD))) (seqS (retS (varD 1)) passS))))
set_option maxRecDepth 100000 in
theorem c_text_words : cSs (cS (cE deepE) (cT deepE) deepE ⟨n_text_words, (defScope s_text_words).names, gl, fs, bn⟩) (defBody s_text_words) = some d_text_words := by kernel_rfl
theorem sc_text_words : FnScope n_text_words ["text"] (defScope s_text_words) := ⟨by kernel_rfl, by kernel_rfl, by kernel_rfl, by decide +kernel, by kernel_rfl, by decide +kernel, by decide +kernel⟩
/-! wrong_sign -/
abbrev s_wrong_sign : Stmt := topS 19
def n_wrong_sign : List Str := ["text"]
def d_wrong_sign : DS := (seqS (exprS (callD 1 1 (consD (varD 0) nilD))) (seqS (retS (op2D ixM (callD 4 1 (consD (varD 0) nilD)) (conD (.int 1)))) passS))
set_option maxRecDepth 100000 in
theorem c_wrong_sign : cSs (cS (cE deepE) (cT deepE) deepE ⟨n_wrong_sign, (defScope s_wrong_sign).names, gl, fs, bn⟩) (defBody s_wrong_sign) = some d_wrong_sign := by kernel_rfl
theorem sc_wrong_sign : FnScope n_wrong_sign ["text"] (defScope s_wrong_sign) := ⟨by kernel_rfl, by kernel_rfl, by kernel_rfl, by decide +kernel, by kernel_rfl, by decide +kernel, by decide +kernel⟩
/-! _law_pot -/
abbrev s__law_pot : Stmt := topS 21
def n__law_pot : List Str := ["script", "k", "cell"]
def d__law_pot : DS := (seqS (setS 2 (ifD (boolD (op2D ltM (varD 1) (opND lenN (consD (varD 0) nilD)))) (opND absN (consD (op2D ixM (varD 0) (varD 1)) nilD)) (op2D addM (op2D mulM (conD (.int 2591)) (varD 1)) (conD (.int 787))))) (seqS (retS (opND lstM (consD (opND maxN (consD (conD (.int 0)) (consD (op2D subM (varD 2) (op2D powM (conD (.int 10)) (conD (.int 18)))) nilD))) (consD (op2D addM (op2D modM (opND intN (consD (op2D addM (op2D addM (op2D mulM (op2D modM (opND intN (consD (varD 2) nilD)) (conD (.int 2147483549))) (conD (.int 40014))) (op2D mulM (conD (.int 6653)) (varD 1))) (conD (.int 1777))) nilD)) (conD (.int 2147483563))) (conD (.int 1))) nilD)))) passS))
set_option maxRecDepth 100000 in
theorem c__law_pot : cSs (cS (cE deepE) (cT deepE) deepE ⟨n__law_pot, (defScope s__law_pot).names, gl, fs, bn⟩) (defBody s__law_pot) = some d__law_pot := by kernel_rfl
theorem sc__law_pot : FnScope n__law_pot ["script", "k"] (defScope s__law_pot) := ⟨by kernel_rfl, by kernel_rfl, by kernel_rfl, by decide +kernel, by kernel_rfl, by decide +kernel, by decide +kernel⟩
/-! _law_draw -/
abbrev s__law_draw : Stmt := topS 22
def n__law_draw : List Str := ["pot", "many", "digit"]
def d__law_draw : DS := (seqS (ifS (boolD (op2D gtM (op2D ixM (varD 0) (conD (.int 0))) (conD (.int 0)))) (seqS (asgS (opND divmodN (consD (op2D ixM (varD 0) (conD (.int 0))) (consD (varD 1) nilD))) (tupG 2 (consG (subG (varD 0) (conD (.int 0))) (consG (nameG 2) nilG)))) (seqS (retS (varD 2)) passS)) passS) (seqS (asgS (op2D modM (opND intN (consD (op2D addM (op2D mulM (op2D ixM (varD 0) (conD (.int 1))) (conD (.int 40692))) (conD (.int 10247))) nilD)) (conD (.int 2147483587))) (subG (varD 0) (conD (.int 1)))) (seqS (retS (op2D modM (opND intN (consD (op2D fdivM (op2D modM (opND intN (consD (op2D mulM (op2D ixM (varD 0) (conD (.int 1))) (op2D ixM (varD 0) (conD (.int 1)))) nilD)) (conD (.int 2147483549))) (conD (.int 43))) nilD)) (varD 1))) passS)))
set_option maxRecDepth 100000 in
theorem c__law_draw : cSs (cS (cE deepE) (cT deepE) deepE ⟨n__law_draw, (defScope s__law_draw).names, gl, fs, bn⟩) (defBody s__law_draw) = some d__law_draw := by kernel_rfl
theorem sc__law_draw : FnScope n__law_draw ["pot", "many"] (defScope s__law_draw) := ⟨by kernel_rfl, by kernel_rfl, by kernel_rfl, by decide +kernel, by kernel_rfl, by decide +kernel, by decide +kernel⟩
/-! _law_pick -/
abbrev s__law_pick : Stmt := topS 23
def n__law_pick : List Str := ["pot", "some"]
def d__law_pick : DS := (seqS (retS (op2D ixM (varD 1) (callD 9 2 (consD (varD 0) (consD (opND lenN (consD (varD 1) nilD)) nilD))))) passS)
set_option maxRecDepth 100000 in
theorem c__law_pick : cSs (cS (cE deepE) (cT deepE) deepE ⟨n__law_pick, (defScope s__law_pick).names, gl, fs, bn⟩) (defBody s__law_pick) = some d__law_pick := by kernel_rfl
theorem sc__law_pick : FnScope n__law_pick ["pot", "some"] (defScope s__law_pick) := ⟨by kernel_rfl, by kernel_rfl, by kernel_rfl, by decide +kernel, by kernel_rfl, by decide +kernel, by decide +kernel⟩
/-! _law_length -/
abbrev s__law_length : Stmt := topS 24
def n__law_length : List Str := ["rest", "size", "small", "figures"]
def fb__law_length_0 : DS := (seqS (ifS (orD (boolD (op2D eqM (varD 1) (opND lenN (consD (varD 0) nilD)))) (boolD (op2D notinM (op2D ixM (varD 0) (varD 1)) (op2D addM (varD 2) (varD 3))))) (seqS (retS (varD 1)) passS) passS) passS)
def d__law_length : DS := (seqS (asgS (opND tupM (consD (conD (.str [97, 98, 99, 100, 101, 102, 103, 104, 105, 106, 107, 108, 109, 110, 111, 112, 113, 114, 115, 116, 117, 118, 119, 120, 121, 122])) (consD (conD (.str [48, 49, 50, 51, 52, 53, 54, 55, 56, 57])) nilD))) (tupG 2 (consG (nameG 2) (consG (nameG 3) nilG)))) (seqS (ifS (boolD (op2D inM (op2D ixM (varD 0) (conD (.int 0))) (conD (.str [40, 41, 44, 61, 60, 43, 46, 48])))) (seqS (retS (conD (.int 1))) passS) passS) (seqS (ifS (boolD (op2D inM (op2D ixM (varD 0) (conD (.int 0))) (varD 3))) (seqS (retS (ifD (andD (boolD (op2D gtM (opND lenN (consD (varD 0) nilD)) (conD (.int 1)))) (boolD (op2D inM (op2D ixM (varD 0) (conD (.int 1))) (varD 3)))) (conD (.int 2)) (conD (.int 1)))) passS) passS) (seqS (ifS (boolD (op2D notinM (op2D ixM (varD 0) (conD (.int 0))) (varD 2))) (seqS (retS (conD (.int 0))) passS) passS) (seqS (forS (rng2I (consD (conD (.int 1)) (consD (conD (.int 20)) nilD))) (nameG 1) fb__law_length_0) (seqS (retS (conD (.int 20))) passS))))))
set_option maxRecDepth 100000 in
theorem c__law_length : cSs (cS (cE deepE) (cT deepE) deepE ⟨n__law_length, (defScope s__law_length).names, gl, fs, bn⟩) (defBody s__law_length) = some d__law_length := by kernel_rfl
theorem sc__law_length : FnScope n__law_length ["rest"] (defScope s__law_length) := ⟨by kernel_rfl, by kernel_rfl, by kernel_rfl, by decide +kernel, by kernel_rfl, by decide +kernel, by decide +kernel⟩
/-! _law_taken -/
abbrev s__law_taken : Stmt := topS 25
def n__law_taken : List Str := ["text", "found", "line", "told", "left", "at", "size"]
def wc__law_taken_0 : DB := (boolD (op2D ltM (varD 5) (opND lenN (consD (varD 4) nilD))))
def wb__law_taken_1 : DS := (seqS (setS 6 (ifD (boolD (op2D eqM (op2D ixM (varD 4) (varD 5)) (conD (.str [32])))) (conD (.int 1)) (callD 11 1 (consD (sliceD (varD 4) (partD (varD 5)) noPartD) nilD)))) (seqS (ifS (boolD (op2D eqM (varD 6) (conD (.int 0)))) (seqS (retS (opND tupM (consD (varD 1) (consD (opND tupM (consD (varD 2) (consD (varD 5) nilD))) nilD)))) passS) passS) (seqS (ifS (boolD (op2D neM (op2D ixM (varD 4) (varD 5)) (conD (.str [32])))) (seqS (exprS (methD isLstM appendM (varD 1) (consD (opND tupM (consD (sliceD (varD 4) (partD (varD 5)) (partD (op2D addM (varD 5) (varD 6)))) (consD (varD 2) (consD (varD 5) nilD)))) nilD))) passS) passS) (seqS (setS 5 (op2D addM (varD 5) (varD 6))) passS))))
def fb__law_taken_2 : DS := (seqS (par2S 4 5 (consD (op2D ixM (methD isStrM splitM (varD 3) (consD (conD (.str [35])) nilD)) (conD (.int 0))) (consD (conD (.int 0)) nilD))) (seqS (whileS wc__law_taken_0 wb__law_taken_1) passS))
def d__law_taken : DS := (seqS (setS 1 (opND lstM nilD)) (seqS (forS (enumI (consD (methD isStrM splitM (varD 0) (consD (conD (.str [10])) nilD)) nilD)) (tupG 2 (consG (nameG 2) (consG (nameG 3) nilG))) fb__law_taken_2) (seqS (retS (opND tupM (consD (varD 1) (consD (conD .non) nilD)))) passS)))
set_option maxRecDepth 100000 in
theorem c__law_taken : cSs (cS (cE deepE) (cT deepE) deepE ⟨n__law_taken, (defScope s__law_taken).names, gl, fs, bn⟩) (defBody s__law_taken) = some d__law_taken := by kernel_rfl
theorem sc__law_taken : FnScope n__law_taken ["text"] (defScope s__law_taken) := ⟨by kernel_rfl, by kernel_rfl, by kernel_rfl, by decide +kernel, by kernel_rfl, by decide +kernel, by decide +kernel⟩
/-! _law_drawn -/
abbrev s__law_drawn : Stmt := topS 26
def n__law_drawn : List Str := ["pot", "some", "found", "turn"]
def fb__law_drawn_0 : DS := (seqS (setS 2 (op2D addM (op2D addM (varD 2) (callD 10 2 (consD (varD 0) (consD (varD 1) nilD)))) (callD 10 2 (consD (varD 0) (consD (opND lstM (consD (conD (.str [])) (consD (conD (.str [32])) (consD (conD (.str [32])) (consD (conD (.str [10])) (consD (conD (.str [32, 32])) (consD (conD (.str [32, 35, 32, 111, 117, 116, 32, 36, 10])) (consD (conD (.str [35, 10])) (consD (conD (.str [10, 10, 32])) nilD))))))))) nilD))))) (seqS (ifS (boolD (op2D eqM (callD 9 2 (consD (varD 0) (consD (conD (.int 14)) nilD))) (conD (.int 0)))) (seqS (setS 2 (op2D addM (varD 2) (callD 10 2 (consD (varD 0) (consD (opND lstM (consD (conD (.str [36])) (consD (conD (.str [65])) (consD (conD (.str [95])) (consD (conD (.str [62])) (consD (conD (.str [45])) (consD (conD (.str [33])) (consD (conD (.str [126])) (consD (conD (.str [42])) (consD (conD (.str [91])) (consD (conD (.str [63])) (consD (conD (.str [58])) nilD)))))))))))) nilD))))) passS) passS) passS))
def d__law_drawn : DS := (seqS (setS 1 (opND lstM (consD (conD (.str [100, 101, 102])) (consD (conD (.str [120])) (consD (conD (.str [119, 111, 114, 100])) (consD (conD (.str [97, 49, 98, 50])) (consD (op2D mulM (conD (.str [110])) (conD (.int 20))) (consD (op2D mulM (conD (.str [110])) (conD (.int 21))) (consD (conD (.str [48])) (consD (conD (.str [55])) (consD (conD (.str [49, 50])) (consD (conD (.str [49, 50, 51])) (consD (conD (.str [48, 48])) (consD (conD (.str [48, 57, 57])) (consD (conD (.str [40])) (consD (conD (.str [41])) (consD (conD (.str [44])) (consD (conD (.str [61])) (consD (conD (.str [60])) (consD (conD (.str [43])) (consD (conD (.str [46])) (consD (conD (.str [101, 110, 100])) nilD)))))))))))))))))))))) (seqS (setS 2 (conD (.str []))) (seqS (forS (rng1I (consD (callD 9 2 (consD (varD 0) (consD (conD (.int 18)) nilD))) nilD)) (nameG 3) fb__law_drawn_0) (seqS (retS (varD 2)) passS))))
set_option maxRecDepth 100000 in
theorem c__law_drawn : cSs (cS (cE deepE) (cT deepE) deepE ⟨n__law_drawn, (defScope s__law_drawn).names, gl, fs, bn⟩) (defBody s__law_drawn) = some d__law_drawn := by kernel_rfl
theorem sc__law_drawn : FnScope n__law_drawn ["pot"] (defScope s__law_drawn) := ⟨by kernel_rfl, by kernel_rfl, by kernel_rfl, by decide +kernel, by kernel_rfl, by decide +kernel, by decide +kernel⟩
/-! _law_text_right -/
abbrev s__law_text_right : Stmt := topS 27
def n__law_text_right : List Str := ["text", "told", "lines", "words", "wrong", "word", "line", "sign"]
def fb__law_text_right_0 : DS := (seqS (ifS (boolD (op2D neM (sliceD (op2D ixM (varD 2) (varD 6)) (partD (varD 7)) (partD (op2D addM (varD 7) (opND lenN (consD (varD 5) nilD))))) (varD 5))) (seqS (retS (conD (.bl false))) passS) passS) passS)
def d__law_text_right : DS := (seqS (asgS (callD 12 1 (consD (varD 0) nilD)) (tupG 2 (consG (nameG 3) (consG (nameG 4) nilG)))) (seqS (setS 1 (callD 6 1 (consD (varD 0) nilD))) (seqS (ifS (orD (boolD (op2D neM (opND reprN (consD (opND lstM (consD (varD 1) (consD (callKD 6 1 0 ["text"] ["text"] nilD (consD (varD 0) nilD)) nilD))) nilD)) (opND reprN (consD (opND lstM (consD (varD 3) (consD (varD 3) nilD))) nilD)))) (boolD (op2D neM (opND reprN (consD (opND lstM (consD (callD 7 1 (consD (varD 0) nilD)) (consD (callKD 7 1 0 ["text"] ["text"] nilD (consD (varD 0) nilD)) nilD))) nilD)) (opND reprN (consD (opND lstM (consD (varD 4) (consD (varD 4) nilD))) nilD))))) (seqS (retS (conD (.bl false))) passS) passS) (seqS (setS 2 (methD isStrM splitM (varD 0) (consD (conD (.str [10])) nilD))) (seqS (forS (anyI (varD 1)) (tupG 3 (consG (nameG 5) (consG (nameG 6) (consG (nameG 7) nilG)))) fb__law_text_right_0) (seqS (exprS (methD isLstM appendM (varD 1) (consD (conD .non) nilD))) (seqS (retS (op2D eqM (opND reprN (consD (callD 6 1 (consD (varD 0) nilD)) nilD)) (opND reprN (consD (varD 3) nilD)))) passS)))))))
set_option maxRecDepth 100000 in
theorem c__law_text_right : cSs (cS (cE deepE) (cT deepE) deepE ⟨n__law_text_right, (defScope s__law_text_right).names, gl, fs, bn⟩) (defBody s__law_text_right) = some d__law_text_right := by kernel_rfl
theorem sc__law_text_right : FnScope n__law_text_right ["text"] (defScope s__law_text_right) := ⟨by kernel_rfl, by kernel_rfl, by kernel_rfl, by decide +kernel, by kernel_rfl, by decide +kernel, by decide +kernel⟩
/-! law -/
abbrev s_law : Stmt := topS 28
def n_law : List Str := ["script", "k", "pot", "text", "turn"]
def ce_law_0 : DE := (callD 14 1 (consD (varD 3) nilD))
def ce_law_1 : DE := (callD 14 1 (consD (callD 13 1 (consD (varD 2) nilD)) nilD))
def fb_law_2 : DS := (seqS (setS 2 (callD 8 2 (consD (varD 0) (consD (varD 1) nilD)))) (seqS (ifS (notD (truD (opND allN (consD (lcD (rng1I (consD (conD (.int 10)) nilD)) [4] (nameG 4) yesD ce_law_1) nilD)))) (seqS (retS (conD (.bl false))) passS) passS) passS))
def d_law : DS := (seqS (forS (rng1I (consD (opND maxN (consD (conD (.int 1)) (consD (opND minN (consD (conD (.int 2)) (consD (opND lenN (consD (varD 0) nilD)) nilD))) nilD))) nilD)) (nameG 1) fb_law_2) (seqS (retS (opND allN (consD (lcD (anyI (opND lstM (consD (conD (.str [])) (consD (conD (.str [32])) (consD (conD (.str [10])) (consD (conD (.str [35])) (consD (conD (.str [120])) (consD (conD (.str [120, 35, 121])) (consD (conD (.str [57])) (consD (conD (.str [36])) nilD)))))))))) [3] (nameG 3) yesD ce_law_0) nilD))) passS))
set_option maxRecDepth 100000 in
theorem c_law : cSs (cS (cE deepE) (cT deepE) deepE ⟨n_law, (defScope s_law).names, gl, fs, bn⟩) (defBody s_law) = some d_law := by kernel_rfl
theorem sc_law : FnScope n_law ["script"] (defScope s_law) := ⟨by kernel_rfl, by kernel_rfl, by kernel_rfl, by decide +kernel, by kernel_rfl, by decide +kernel, by decide +kernel⟩
def tab : Tab := [(d_is_text, 1, 1), (d_want_text, 1, 1), (d_word_size, 2, 3), (d_behind_remark, 2, 3), (d_taken_apart, 1, 6), (d_want_few_words, 1, 1), (d_text_words, 1, 2), (d_wrong_sign, 1, 1), (d__law_pot, 2, 3), (d__law_draw, 2, 3), (d__law_pick, 2, 2), (d__law_length, 1, 4), (d__law_taken, 1, 7), (d__law_drawn, 1, 4), (d__law_text_right, 1, 8), (d_law, 1, 5)]
end K11
end L2
end
section
namespace L2
namespace K11
open PySem PySem.Spec PyProof.Rows L2.Vf
def e_is_text : He.DefD := ⟨("is_text", none), "is_text", "is_text", defArgs s_is_text, defBody s_is_text, defScope s_is_text, [], []⟩
def e_want_text : He.DefD := ⟨("want_text", none), "want_text", "want_text", defArgs s_want_text, defBody s_want_text, defScope s_want_text, [], []⟩
def e_word_size : He.DefD := ⟨("word_size", none), "word_size", "word_size", defArgs s_word_size, defBody s_word_size, defScope s_word_size, [], []⟩
def e_behind_remark : He.DefD := ⟨("behind_remark", none), "behind_remark", "behind_remark", defArgs s_behind_remark, defBody s_behind_remark, defScope s_behind_remark, [], []⟩
def e_taken_apart : He.DefD := ⟨("taken_apart", none), "taken_apart", "taken_apart", defArgs s_taken_apart, defBody s_taken_apart, defScope s_taken_apart, [], []⟩
def e_want_few_words : He.DefD := ⟨("want_few_words", none), "want_few_words", "want_few_words", defArgs s_want_few_words, defBody s_want_few_words, defScope s_want_few_words, [], []⟩
def e_text_words : He.DefD := ⟨("text_words", none), "text_words", "text_words", defArgs s_text_words, defBody s_text_words, defScope s_text_words, [], []⟩
def e_wrong_sign : He.DefD := ⟨("wrong_sign", none), "wrong_sign", "wrong_sign", defArgs s_wrong_sign, defBody s_wrong_sign, defScope s_wrong_sign, [], []⟩
def e__law_pot : He.DefD := ⟨("_law_pot", none), "_law_pot", "_law_pot", defArgs s__law_pot, defBody s__law_pot, defScope s__law_pot, [], []⟩
def e__law_draw : He.DefD := ⟨("_law_draw", none), "_law_draw", "_law_draw", defArgs s__law_draw, defBody s__law_draw, defScope s__law_draw, [], []⟩
def e__law_pick : He.DefD := ⟨("_law_pick", none), "_law_pick", "_law_pick", defArgs s__law_pick, defBody s__law_pick, defScope s__law_pick, [], []⟩
def e__law_length : He.DefD := ⟨("_law_length", none), "_law_length", "_law_length", defArgs s__law_length, defBody s__law_length, defScope s__law_length, [], []⟩
def e__law_taken : He.DefD := ⟨("_law_taken", none), "_law_taken", "_law_taken", defArgs s__law_taken, defBody s__law_taken, defScope s__law_taken, [], []⟩
def e__law_drawn : He.DefD := ⟨("_law_drawn", none), "_law_drawn", "_law_drawn", defArgs s__law_drawn, defBody s__law_drawn, defScope s__law_drawn, [], []⟩
def e__law_text_right : He.DefD := ⟨("_law_text_right", none), "_law_text_right", "_law_text_right", defArgs s__law_text_right, defBody s__law_text_right, defScope s__law_text_right, [], []⟩
def e_law : He.DefD := ⟨("law", none), "law", "law", defArgs s_law, defBody s_law, defScope s_law, [], []⟩
def fn : List He.DefD := [e_is_text, e_want_text, e_word_size, e_behind_remark, e_taken_apart, e_want_few_words, e_text_words, e_wrong_sign, e__law_pot, e__law_draw, e__law_pick, e__law_length, e__law_taken, e__law_drawn, e__law_text_right, e_law]
def fa0 : List He.Fa := [.str "SIGNS" (S [40, 41, 44, 61, 60, 43, 46]), .str "FIGURES" (S [48, 49, 50, 51, 52, 53, 54, 55, 56, 57]), .str "LETTERS" (S [97, 98, 99, 100, 101, 102, 103, 104, 105, 106, 107, 108, 109, 110, 111, 112, 113, 114, 115, 116, 117, 118, 119, 120, 121, 122]), .int "MOST_TEXT" 20000, .int "MOST_WORDS" 3000, .int "MOST_LETTERS" 20, .glo "is_text", .glo "want_text", .glo "word_size", .glo "behind_remark", .glo "taken_apart", .glo "want_few_words", .glo "text_words", .glo "wrong_sign", .glo "_law_pot", .glo "_law_draw", .glo "_law_pick", .glo "_law_length", .glo "_law_taken", .glo "_law_drawn", .glo "_law_text_right", .glo "law", .free "abs", .free "all", .free "divmod", .free "enumerate", .free "int", .free "isinstance", .free "len", .free "max"]
def fa1 : List He.Fa := [.free "min", .free "range", .free "repr", .free "str"]
def fa : List He.Fa := fa0 ++ fa1
abbrev R : PySem.W.OpenRow := PySem.W.OpenLaw.row PySem.Challenge.rw_lastremains_k11_whole_words_of_programs
abbrev hk : PySem.W.Hook := He.hookD 4 fa fn
def ob (s : PySem.W.SharedT) : He.AlD := He.obsDG 4 fa fn (HandSHeadRun.getT s)
theorem ob_eq (s : PySem.W.SharedT) : ob s = hk.obs s.abs := He.obsDG_eq (HandSHeadRun.getT_eq s)
def lo0 : List Str := ["__name__", "WorkError", "LimitError", "InvalidText", "TooMany", "SIGNS", "FIGURES", "LETTERS", "MOST_TEXT", "MOST_WORDS", "MOST_LETTERS", "is_text", "want_text", "word_size", "behind_remark", "taken_apart", "want_few_words", "text_words", "wrong_sign", "_law_pot", "_law_draw", "_law_pick", "_law_length", "_law_taken", "_law_drawn", "_law_text_right"]
def lo : List Str := lo0
theorem run (w : World) : HandSHeadRun.RunEq R (PySem.W.view R.prog [28]) hk ob 3000 lo w := by
  intro os
  kernel_rfl
def tx (K : PySem.W.Frag) : Tx := ⟨K, fun _ => 0⟩
section
variable {K : PySem.W.Frag} {mg : Str → Option Value} {h : Heap}
theorem is_is_text (X : K.In h) (G : h.Ns mainGlobals mg) (c : He.SaysD fa fn K) : DefIs K mg gl fs bn "is_text" ["value"] [] (d_is_text, 1, 1) := by
  obtain ⟨fd, F⟩ := c.def_ 0 (d := e_is_text) rfl
  have F : FunD K "is_text" "is_text" (defArgs s_is_text) (defBody s_is_text) (defScope s_is_text) [] [] (He.ga K "is_text") fd := F
  refine defIs_of (N := n_is_text) F (He.glo_ok X G (c.fact 6 (f := .glo "is_text") rfl)) sc_is_text (F.bindsN fun _ _ _ _ _ _ us hl => match us, hl with | [_], _ => rfl) ?_ c_is_text
  intro q hq; cases hq
theorem is_want_text (X : K.In h) (G : h.Ns mainGlobals mg) (c : He.SaysD fa fn K) : DefIs K mg gl fs bn "want_text" ["text"] [] (d_want_text, 1, 1) := by
  obtain ⟨fd, F⟩ := c.def_ 1 (d := e_want_text) rfl
  have F : FunD K "want_text" "want_text" (defArgs s_want_text) (defBody s_want_text) (defScope s_want_text) [] [] (He.ga K "want_text") fd := F
  refine defIs_of (N := n_want_text) F (He.glo_ok X G (c.fact 7 (f := .glo "want_text") rfl)) sc_want_text (F.bindsN fun _ _ _ _ _ _ us hl => match us, hl with | [_], _ => rfl) ?_ c_want_text
  intro q hq; cases hq
theorem is_word_size (X : K.In h) (G : h.Ns mainGlobals mg) (c : He.SaysD fa fn K) : DefIs K mg gl fs bn "word_size" ["text", "at"] [] (d_word_size, 2, 3) := by
  obtain ⟨fd, F⟩ := c.def_ 2 (d := e_word_size) rfl
  have F : FunD K "word_size" "word_size" (defArgs s_word_size) (defBody s_word_size) (defScope s_word_size) [] [] (He.ga K "word_size") fd := F
  refine defIs_of (N := n_word_size) F (He.glo_ok X G (c.fact 8 (f := .glo "word_size") rfl)) sc_word_size (F.bindsN fun _ _ _ _ _ _ us hl => match us, hl with | [_, _], _ => rfl) ?_ c_word_size
  intro q hq; cases hq
theorem is_behind_remark (X : K.In h) (G : h.Ns mainGlobals mg) (c : He.SaysD fa fn K) : DefIs K mg gl fs bn "behind_remark" ["text", "at"] [] (d_behind_remark, 2, 3) := by
  obtain ⟨fd, F⟩ := c.def_ 3 (d := e_behind_remark) rfl
  have F : FunD K "behind_remark" "behind_remark" (defArgs s_behind_remark) (defBody s_behind_remark) (defScope s_behind_remark) [] [] (He.ga K "behind_remark") fd := F
  refine defIs_of (N := n_behind_remark) F (He.glo_ok X G (c.fact 9 (f := .glo "behind_remark") rfl)) sc_behind_remark (F.bindsN fun _ _ _ _ _ _ us hl => match us, hl with | [_, _], _ => rfl) ?_ c_behind_remark
  intro q hq; cases hq
theorem is_taken_apart (X : K.In h) (G : h.Ns mainGlobals mg) (c : He.SaysD fa fn K) : DefIs K mg gl fs bn "taken_apart" ["text"] [] (d_taken_apart, 1, 6) := by
  obtain ⟨fd, F⟩ := c.def_ 4 (d := e_taken_apart) rfl
  have F : FunD K "taken_apart" "taken_apart" (defArgs s_taken_apart) (defBody s_taken_apart) (defScope s_taken_apart) [] [] (He.ga K "taken_apart") fd := F
  refine defIs_of (N := n_taken_apart) F (He.glo_ok X G (c.fact 10 (f := .glo "taken_apart") rfl)) sc_taken_apart (F.bindsN fun _ _ _ _ _ _ us hl => match us, hl with | [_], _ => rfl) ?_ c_taken_apart
  intro q hq; cases hq
theorem is_want_few_words (X : K.In h) (G : h.Ns mainGlobals mg) (c : He.SaysD fa fn K) : DefIs K mg gl fs bn "want_few_words" ["words"] [] (d_want_few_words, 1, 1) := by
  obtain ⟨fd, F⟩ := c.def_ 5 (d := e_want_few_words) rfl
  have F : FunD K "want_few_words" "want_few_words" (defArgs s_want_few_words) (defBody s_want_few_words) (defScope s_want_few_words) [] [] (He.ga K "want_few_words") fd := F
  refine defIs_of (N := n_want_few_words) F (He.glo_ok X G (c.fact 11 (f := .glo "want_few_words") rfl)) sc_want_few_words (F.bindsN fun _ _ _ _ _ _ us hl => match us, hl with | [_], _ => rfl) ?_ c_want_few_words
  intro q hq; cases hq
theorem is_text_words (X : K.In h) (G : h.Ns mainGlobals mg) (c : He.SaysD fa fn K) : DefIs K mg gl fs bn "text_words" ["text"] [(0, ["text"])] (d_text_words, 1, 2) := by
  obtain ⟨fd, F⟩ := c.def_ 6 (d := e_text_words) rfl
  have F : FunD K "text_words" "text_words" (defArgs s_text_words) (defBody s_text_words) (defScope s_text_words) [] [] (He.ga K "text_words") fd := F
  refine defIs_of (N := n_text_words) F (He.glo_ok X G (c.fact 12 (f := .glo "text_words") rfl)) sc_text_words (F.bindsN fun _ _ _ _ _ _ us hl => match us, hl with | [_], _ => rfl) ?_ c_text_words
  intro q hq
  rcases List.mem_cons.mp hq with rfl | hq
  · exact kwB_of F fun _ _ _ _ _ _ us ws h1 h2 => match us, h1, ws, h2 with | [], _, [_], _ => rfl
  cases hq
theorem is_wrong_sign (X : K.In h) (G : h.Ns mainGlobals mg) (c : He.SaysD fa fn K) : DefIs K mg gl fs bn "wrong_sign" ["text"] [(0, ["text"])] (d_wrong_sign, 1, 1) := by
  obtain ⟨fd, F⟩ := c.def_ 7 (d := e_wrong_sign) rfl
  have F : FunD K "wrong_sign" "wrong_sign" (defArgs s_wrong_sign) (defBody s_wrong_sign) (defScope s_wrong_sign) [] [] (He.ga K "wrong_sign") fd := F
  refine defIs_of (N := n_wrong_sign) F (He.glo_ok X G (c.fact 13 (f := .glo "wrong_sign") rfl)) sc_wrong_sign (F.bindsN fun _ _ _ _ _ _ us hl => match us, hl with | [_], _ => rfl) ?_ c_wrong_sign
  intro q hq
  rcases List.mem_cons.mp hq with rfl | hq
  · exact kwB_of F fun _ _ _ _ _ _ us ws h1 h2 => match us, h1, ws, h2 with | [], _, [_], _ => rfl
  cases hq
theorem is__law_pot (X : K.In h) (G : h.Ns mainGlobals mg) (c : He.SaysD fa fn K) : DefIs K mg gl fs bn "_law_pot" ["script", "k"] [] (d__law_pot, 2, 3) := by
  obtain ⟨fd, F⟩ := c.def_ 8 (d := e__law_pot) rfl
  have F : FunD K "_law_pot" "_law_pot" (defArgs s__law_pot) (defBody s__law_pot) (defScope s__law_pot) [] [] (He.ga K "_law_pot") fd := F
  refine defIs_of (N := n__law_pot) F (He.glo_ok X G (c.fact 14 (f := .glo "_law_pot") rfl)) sc__law_pot (F.bindsN fun _ _ _ _ _ _ us hl => match us, hl with | [_, _], _ => rfl) ?_ c__law_pot
  intro q hq; cases hq
theorem is__law_draw (X : K.In h) (G : h.Ns mainGlobals mg) (c : He.SaysD fa fn K) : DefIs K mg gl fs bn "_law_draw" ["pot", "many"] [] (d__law_draw, 2, 3) := by
  obtain ⟨fd, F⟩ := c.def_ 9 (d := e__law_draw) rfl
  have F : FunD K "_law_draw" "_law_draw" (defArgs s__law_draw) (defBody s__law_draw) (defScope s__law_draw) [] [] (He.ga K "_law_draw") fd := F
  refine defIs_of (N := n__law_draw) F (He.glo_ok X G (c.fact 15 (f := .glo "_law_draw") rfl)) sc__law_draw (F.bindsN fun _ _ _ _ _ _ us hl => match us, hl with | [_, _], _ => rfl) ?_ c__law_draw
  intro q hq; cases hq
theorem is__law_pick (X : K.In h) (G : h.Ns mainGlobals mg) (c : He.SaysD fa fn K) : DefIs K mg gl fs bn "_law_pick" ["pot", "some"] [] (d__law_pick, 2, 2) := by
  obtain ⟨fd, F⟩ := c.def_ 10 (d := e__law_pick) rfl
  have F : FunD K "_law_pick" "_law_pick" (defArgs s__law_pick) (defBody s__law_pick) (defScope s__law_pick) [] [] (He.ga K "_law_pick") fd := F
  refine defIs_of (N := n__law_pick) F (He.glo_ok X G (c.fact 16 (f := .glo "_law_pick") rfl)) sc__law_pick (F.bindsN fun _ _ _ _ _ _ us hl => match us, hl with | [_, _], _ => rfl) ?_ c__law_pick
  intro q hq; cases hq
theorem is__law_length (X : K.In h) (G : h.Ns mainGlobals mg) (c : He.SaysD fa fn K) : DefIs K mg gl fs bn "_law_length" ["rest"] [] (d__law_length, 1, 4) := by
  obtain ⟨fd, F⟩ := c.def_ 11 (d := e__law_length) rfl
  have F : FunD K "_law_length" "_law_length" (defArgs s__law_length) (defBody s__law_length) (defScope s__law_length) [] [] (He.ga K "_law_length") fd := F
  refine defIs_of (N := n__law_length) F (He.glo_ok X G (c.fact 17 (f := .glo "_law_length") rfl)) sc__law_length (F.bindsN fun _ _ _ _ _ _ us hl => match us, hl with | [_], _ => rfl) ?_ c__law_length
  intro q hq; cases hq
theorem is__law_taken (X : K.In h) (G : h.Ns mainGlobals mg) (c : He.SaysD fa fn K) : DefIs K mg gl fs bn "_law_taken" ["text"] [] (d__law_taken, 1, 7) := by
  obtain ⟨fd, F⟩ := c.def_ 12 (d := e__law_taken) rfl
  have F : FunD K "_law_taken" "_law_taken" (defArgs s__law_taken) (defBody s__law_taken) (defScope s__law_taken) [] [] (He.ga K "_law_taken") fd := F
  refine defIs_of (N := n__law_taken) F (He.glo_ok X G (c.fact 18 (f := .glo "_law_taken") rfl)) sc__law_taken (F.bindsN fun _ _ _ _ _ _ us hl => match us, hl with | [_], _ => rfl) ?_ c__law_taken
  intro q hq; cases hq
theorem is__law_drawn (X : K.In h) (G : h.Ns mainGlobals mg) (c : He.SaysD fa fn K) : DefIs K mg gl fs bn "_law_drawn" ["pot"] [] (d__law_drawn, 1, 4) := by
  obtain ⟨fd, F⟩ := c.def_ 13 (d := e__law_drawn) rfl
  have F : FunD K "_law_drawn" "_law_drawn" (defArgs s__law_drawn) (defBody s__law_drawn) (defScope s__law_drawn) [] [] (He.ga K "_law_drawn") fd := F
  refine defIs_of (N := n__law_drawn) F (He.glo_ok X G (c.fact 19 (f := .glo "_law_drawn") rfl)) sc__law_drawn (F.bindsN fun _ _ _ _ _ _ us hl => match us, hl with | [_], _ => rfl) ?_ c__law_drawn
  intro q hq; cases hq
theorem is__law_text_right (X : K.In h) (G : h.Ns mainGlobals mg) (c : He.SaysD fa fn K) : DefIs K mg gl fs bn "_law_text_right" ["text"] [] (d__law_text_right, 1, 8) := by
  obtain ⟨fd, F⟩ := c.def_ 14 (d := e__law_text_right) rfl
  have F : FunD K "_law_text_right" "_law_text_right" (defArgs s__law_text_right) (defBody s__law_text_right) (defScope s__law_text_right) [] [] (He.ga K "_law_text_right") fd := F
  refine defIs_of (N := n__law_text_right) F (He.glo_ok X G (c.fact 20 (f := .glo "_law_text_right") rfl)) sc__law_text_right (F.bindsN fun _ _ _ _ _ _ us hl => match us, hl with | [_], _ => rfl) ?_ c__law_text_right
  intro q hq; cases hq
theorem is_law (X : K.In h) (G : h.Ns mainGlobals mg) (c : He.SaysD fa fn K) : DefIs K mg gl fs bn "law" ["script"] [] (d_law, 1, 5) := by
  obtain ⟨fd, F⟩ := c.def_ 15 (d := e_law) rfl
  have F : FunD K "law" "law" (defArgs s_law) (defBody s_law) (defScope s_law) [] [] (He.ga K "law") fd := F
  refine defIs_of (N := n_law) F (He.glo_ok X G (c.fact 21 (f := .glo "law") rfl)) sc_law (F.bindsN fun _ _ _ _ _ _ us hl => match us, hl with | [_], _ => rfl) ?_ c_law
  intro q hq; cases hq
theorem mod_ok (X : K.In h) (G : h.Ns mainGlobals mg) (c : He.SaysD fa fn K) : ModIs (tx K) mg gl fs bn tab := by
  refine modIs_of ?_ ?_ ?_
  · intro p hp
    rcases List.mem_cons.mp hp with rfl | hp
    · exact gl_str (T := tx K) X G (c.fact 0 (f := .str "SIGNS" (S [40, 41, 44, 61, 60, 43, 46])) rfl)
    rcases List.mem_cons.mp hp with rfl | hp
    · exact gl_str (T := tx K) X G (c.fact 1 (f := .str "FIGURES" (S [48, 49, 50, 51, 52, 53, 54, 55, 56, 57])) rfl)
    rcases List.mem_cons.mp hp with rfl | hp
    · exact gl_str (T := tx K) X G (c.fact 2 (f := .str "LETTERS" (S [97, 98, 99, 100, 101, 102, 103, 104, 105, 106, 107, 108, 109, 110, 111, 112, 113, 114, 115, 116, 117, 118, 119, 120, 121, 122])) rfl)
    rcases List.mem_cons.mp hp with rfl | hp
    · exact gl_int (T := tx K) X G (c.fact 3 (f := .int "MOST_TEXT" 20000) rfl)
    rcases List.mem_cons.mp hp with rfl | hp
    · exact gl_int (T := tx K) X G (c.fact 4 (f := .int "MOST_WORDS" 3000) rfl)
    rcases List.mem_cons.mp hp with rfl | hp
    · exact gl_int (T := tx K) X G (c.fact 5 (f := .int "MOST_LETTERS" 20) rfl)
    cases hp
  · intro y hy
    rcases List.mem_cons.mp hy with rfl | hy
    · exact He.free_ok X G (c.fact 22 (f := .free "abs") rfl)
    rcases List.mem_cons.mp hy with rfl | hy
    · exact He.free_ok X G (c.fact 23 (f := .free "all") rfl)
    rcases List.mem_cons.mp hy with rfl | hy
    · exact He.free_ok X G (c.fact 24 (f := .free "divmod") rfl)
    rcases List.mem_cons.mp hy with rfl | hy
    · exact He.free_ok X G (c.fact 25 (f := .free "enumerate") rfl)
    rcases List.mem_cons.mp hy with rfl | hy
    · exact He.free_ok X G (c.fact 26 (f := .free "int") rfl)
    rcases List.mem_cons.mp hy with rfl | hy
    · exact He.free_ok X G (c.fact 27 (f := .free "isinstance") rfl)
    rcases List.mem_cons.mp hy with rfl | hy
    · exact He.free_ok X G (c.fact 28 (f := .free "len") rfl)
    rcases List.mem_cons.mp hy with rfl | hy
    · exact He.free_ok X G (c.fact 29 (f := .free "max") rfl)
    rcases List.mem_cons.mp hy with rfl | hy
    · exact He.free_ok X G (c.fact 30 (f := .free "min") rfl)
    rcases List.mem_cons.mp hy with rfl | hy
    · exact He.free_ok X G (c.fact 31 (f := .free "range") rfl)
    rcases List.mem_cons.mp hy with rfl | hy
    · exact He.free_ok X G (c.fact 32 (f := .free "repr") rfl)
    rcases List.mem_cons.mp hy with rfl | hy
    · exact He.free_ok X G (c.fact 33 (f := .free "str") rfl)
    cases hy
  · intro q hq
    rcases List.mem_cons.mp hq with rfl | hq
    · exact ⟨_, rfl, is_is_text X G c⟩
    rcases List.mem_cons.mp hq with rfl | hq
    · exact ⟨_, rfl, is_want_text X G c⟩
    rcases List.mem_cons.mp hq with rfl | hq
    · exact ⟨_, rfl, is_word_size X G c⟩
    rcases List.mem_cons.mp hq with rfl | hq
    · exact ⟨_, rfl, is_behind_remark X G c⟩
    rcases List.mem_cons.mp hq with rfl | hq
    · exact ⟨_, rfl, is_taken_apart X G c⟩
    rcases List.mem_cons.mp hq with rfl | hq
    · exact ⟨_, rfl, is_want_few_words X G c⟩
    rcases List.mem_cons.mp hq with rfl | hq
    · exact ⟨_, rfl, is_text_words X G c⟩
    rcases List.mem_cons.mp hq with rfl | hq
    · exact ⟨_, rfl, is_wrong_sign X G c⟩
    rcases List.mem_cons.mp hq with rfl | hq
    · exact ⟨_, rfl, is__law_pot X G c⟩
    rcases List.mem_cons.mp hq with rfl | hq
    · exact ⟨_, rfl, is__law_draw X G c⟩
    rcases List.mem_cons.mp hq with rfl | hq
    · exact ⟨_, rfl, is__law_pick X G c⟩
    rcases List.mem_cons.mp hq with rfl | hq
    · exact ⟨_, rfl, is__law_length X G c⟩
    rcases List.mem_cons.mp hq with rfl | hq
    · exact ⟨_, rfl, is__law_taken X G c⟩
    rcases List.mem_cons.mp hq with rfl | hq
    · exact ⟨_, rfl, is__law_drawn X G c⟩
    rcases List.mem_cons.mp hq with rfl | hq
    · exact ⟨_, rfl, is__law_text_right X G c⟩
    rcases List.mem_cons.mp hq with rfl | hq
    · exact ⟨_, rfl, is_law X G c⟩
    cases hq
end
def fuel : Nat := 40000
abbrev rn : Nat → List MV → MH → Rs MV := runP tab fuel 12
/-- what is left: the law's denotation says True at every script -/
def LawTrue : Prop := ∀ ns : List Int, ns.length ≤ 63 → ∃ mh, rn 15 [.fl (ns.map .int)] [] = .ok (.bl true) mh
end K11
end L2
open PySem PySem.W PySem.Calls PyProof.Rows
theorem L2.K11.holds_of (LT : L2.K11.LawTrue) : PySem.Challenge.rw_lastremains_k11_whole_words_of_programs.Holds := by
  w_on; o_law
  refine HandSHeadRun.head_any (r := OpenLaw.row PySem.Challenge.rw_lastremains_k11_whole_words_of_programs) (q := view (OpenLaw.row PySem.Challenge.rw_lastremains_k11_whole_words_of_programs).prog [28]) (H := L2.K11.hk) (ob := L2.K11.ob) (M := 3000) (loose := L2.K11.lo) (d := HandSHeadRun.topDef (OpenLaw.row PySem.Challenge.rw_lastremains_k11_whole_words_of_programs).prog 28) (kwd := []) L2.K11.ob_eq
    (by kernel_rfl) (fun s => by kernel_rfl) L2.K11.run (by kernel_rfl) (by kernel_rfl) (by kernel_rfl) (by rfl) (by first | assumption | decide +kernel) (by decide +kernel) ⟨rfl, rfl, rfl, rfl, rfl, by decide +kernel⟩ ?hw ?hc
  case hw => w_witness2
  case hc =>
    refine L2.Vf.walk_ofG (l := PySem.Challenge.rw_lastremains_k11_whole_words_of_programs) (n := 63) (k := 12) (x := "script") rfl (by decide) (by kernel_rfl) ⟨rfl, by decide, by decide⟩ ?F
    intro w mg fa h Y G hmg0
    obtain ⟨K, KX, c⟩ := Y
    have hmg : mg ("law" : PySem.Str) = some (.ref fa) := by
      have e : (HandSHeadRun.topDef (OpenLaw.row PySem.Challenge.rw_lastremains_k11_whole_words_of_programs).prog 28).name = ("law" : PySem.Str) := by kernel_rfl
      rw [← e]
      exact hmg0
    obtain ⟨f, fd, hF, hm, _, hb, _⟩ := L2.Vf.prog_ok (P := (PySem.Challenge.rw_lastremains_k11_whole_words_of_programs).prog) (w := w) (L2.K11.mod_ok KX G c) L2.K11.fuel 12 "law" (15, ["script"], []) (by rfl)
    have e := hmg.symm.trans hm
    cases e
    exact ⟨L2.K11.tx K, fd, L2.K11.rn 15, KX, hb, LT, fun base _ _ => hF base⟩
end
section
/-! K11C: what the defs of k11 compute. -/
namespace L2
namespace K11
open PySem PySem.Spec PyProof.Rows L2.Vf
variable {F k : Nat} {mh : MH}
abbrev rp (F k : Nat) : Nat → List MV → MH → Rs MV := runP tab F k
theorem r_draw (as : List MV) : rp F (k + 1) 9 as mh = bodyR d__law_draw 2 3 ⟨rp F k, F⟩ as mh := rfl
theorem r_pick (as : List MV) : rp F (k + 1) 10 as mh = bodyR d__law_pick 2 2 ⟨rp F k, F⟩ as mh := rfl
/-- a pot: at p, with wholes that stay small -/
structure Pot (mh : MH) (p : Nat) : Prop where
  ex : ∃ a b : Int, mh[p]? = some (.lst [.int a, .int b]) ∧ 0 ≤ a ∧ 0 ≤ b ∧ b < 2147483648
theorem draw_spec {p : Nat} {n : Int} (h : Pot mh p) (h1 : 0 < n) (h2 : n < 1073741824) : ∃ mh' v, rp F (k + 1) 9 [.loc p, .int n] mh = .ok (.int v) mh' ∧ 0 ≤ v ∧ v < n ∧ Pot mh' p ∧ mh'.length = mh.length ∧ ∀ q, q ≠ p → mh'[q]? = mh[q]? := by
  obtain ⟨a, b, e, ha, hb, hb2⟩ := h.ex
  rw [r_draw]
  unfold d__law_draw
  have g0 : getM [.int a, .int b] 0 = some (.int a) := rfl
  have g1 : getM [.int a, .int b] 1 = some (.int b) := rfl
  have hp : p < mh.length := (List.getElem?_eq_some_iff.mp e).1
  by_cases ha0 : 0 < a
  · simp only [lim, bodyR, seqS, setS, asgS, retS, retNS, exprS, ifS, passS, par2S, par3S, toS, bnd, op1D, op2D, opND, nilD, consD, varD, conD, boolD, truD, trM, andD, orD, notD, ifD, andV, orV, callD, callM, callKD, methD, sliceD, partD, noPartD, lft, tupG, nameG, consG, nilG, List.map_cons, List.map_nil, List.length_cons, List.length_nil, List.cons_append, List.nil_append, List.append_nil, List.getElem?_cons_zero, List.getElem?_cons_succ, List.set_cons_zero, List.set_cons_succ, List.replicate, Nat.beq_eq, Nat.ble_eq, Nat.blt_eq, Nat.reduceLT, Nat.reduceLeDiff, Int.reduceLT, Int.reduceLE, Int.reduceNeg, Int.reducePow, decide_true, decide_false, Bool.and_self, Bool.and_true, Bool.true_and, Bool.not_true, Bool.not_false, beq_self_eq_true, ite_true, ite_false, if_true, if_false, Nat.reduceAdd, Nat.reduceSub, Nat.zero_add, Bool.false_eq_true, reduceIte, ixM, e, g0, gtM, ha0, decide_true, divmodN, h1, h2, Bool.and_self, subG, stIx]
    refine ⟨_, _, rfl, Int.emod_nonneg _ (by omega), Int.emod_lt_of_pos _ h1, ⟨_, _, List.getElem?_set_self hp, Int.ediv_nonneg ha (by omega), hb, hb2⟩, List.length_set, fun q hq => List.getElem?_set_ne (by omega)⟩
  · have m1 : mulOk b 40692 = true := by simp [mulOk]
    have b1 : 0 ≤ (b * 40692 + 10247) % 2147483587 := Int.emod_nonneg _ (by decide)
    have b2 : (b * 40692 + 10247) % 2147483587 < 2147483587 := Int.emod_lt_of_pos _ (by decide)
    have g2 : ∀ x : Int, getM [.int a, .int x] 1 = some (.int x) := fun _ => rfl
    generalize hx : (b * 40692 + 10247) % 2147483587 = x at *
    have m2 : mulOk x x = true := by simp [mulOk]; omega
    simp only [lim, bodyR, seqS, setS, asgS, retS, retNS, exprS, ifS, passS, par2S, par3S, toS, bnd, op1D, op2D, opND, nilD, consD, varD, conD, boolD, truD, trM, andD, orD, notD, ifD, andV, orV, callD, callM, callKD, methD, sliceD, partD, noPartD, lft, tupG, nameG, consG, nilG, List.map_cons, List.map_nil, List.length_cons, List.length_nil, List.cons_append, List.nil_append, List.append_nil, List.getElem?_cons_zero, List.getElem?_cons_succ, List.set_cons_zero, List.set_cons_succ, List.replicate, Nat.beq_eq, Nat.ble_eq, Nat.blt_eq, Nat.reduceLT, Nat.reduceLeDiff, Int.reduceLT, Int.reduceLE, Int.reduceNeg, Int.reducePow, decide_true, decide_false, Bool.and_self, Bool.and_true, Bool.true_and, Bool.not_true, Bool.not_false, beq_self_eq_true, ite_true, ite_false, if_true, if_false, Nat.reduceAdd, Nat.reduceSub, Nat.zero_add, Bool.false_eq_true, reduceIte, ixM, e, g0, g1, gtM, ha0, mulM, m1, addM, intN, modM, subG, stIx, List.getElem?_set_self hp, g2, hx, m2, fdivM, h1]
    refine ⟨_, _, rfl, Int.emod_nonneg _ (by omega), Int.emod_lt_of_pos _ h1, ⟨_, _, List.getElem?_set_self hp, ha, b1, by omega⟩, List.length_set, fun q hq => List.getElem?_set_ne (by omega)⟩
/-- mh' goes on from mh, but for what stands at p -/
structure Fr (p : Nat) (mh mh' : MH) : Prop where
  le : mh.length ≤ mh'.length
  keep : ∀ q, q < mh.length → q ≠ p → mh'[q]? = mh[q]?
theorem Fr.refl {p : Nat} : Fr p mh mh := ⟨Nat.le_refl _, fun _ _ _ => rfl⟩
theorem Fr.trans {p : Nat} {a b c : MH} (x : Fr p a b) (y : Fr p b c) : Fr p a c := ⟨Nat.le_trans x.le y.le, fun q h n => (y.keep q (Nat.lt_of_lt_of_le h x.le) n).trans (x.keep q h n)⟩
theorem Fr.app {p : Nat} {nw : MH} : Fr p mh (mh ++ nw) := ⟨by simp, fun q h _ => List.getElem?_append_left h⟩
theorem Pot.app {p : Nat} {nw : MH} (h : Pot mh p) : Pot (mh ++ nw) p := by
  obtain ⟨a, b, e, r⟩ := h.ex
  exact ⟨a, b, by rw [List.getElem?_append_left (List.getElem?_eq_some_iff.mp e).1]; exact e, r⟩
theorem Pot.lt {p : Nat} (h : Pot mh p) : p < mh.length := by
  obtain ⟨a, b, e, r⟩ := h.ex
  exact (List.getElem?_eq_some_iff.mp e).1
theorem pick_spec {p q : Nat} {xs : List MV} (h : Pot mh p) (hq : mh[q]? = some (.lst xs)) (hp : q ≠ p) (h1 : 0 < xs.length) (h2 : xs.length < 1073741824) : ∃ mh' v, rp F (k + 2) 10 [.loc p, .loc q] mh = .ok v mh' ∧ v ∈ xs ∧ Pot mh' p ∧ Fr p mh mh' := by
  obtain ⟨mh', i, e, i0, i1, hP, hL, hK⟩ := draw_spec (F := F) (k := k) (mh := mh) (p := p) (n := xs.length) h (by omega) (by omega)
  rw [r_pick]
  unfold d__law_pick
  have hq' : mh'[q]? = some (.lst xs) := by rw [hK q hp]; exact hq
  obtain ⟨j, rfl⟩ := Int.eq_ofNat_of_zero_le i0
  have hj : j < xs.length := by omega
  have hg : getM xs (j : Int) = some xs[j] := by rw [getM_nat]; exact List.getElem?_eq_getElem hj
  simp only [lim, bodyR, seqS, setS, asgS, retS, retNS, exprS, ifS, passS, par2S, par3S, toS, bnd, op1D, op2D, opND, nilD, consD, varD, conD, boolD, truD, trM, andD, orD, notD, ifD, andV, orV, callD, callM, callKD, methD, sliceD, partD, noPartD, lft, tupG, nameG, consG, nilG, List.map_cons, List.map_nil, List.length_cons, List.length_nil, List.cons_append, List.nil_append, List.append_nil, List.getElem?_cons_zero, List.getElem?_cons_succ, List.set_cons_zero, List.set_cons_succ, List.replicate, Nat.beq_eq, Nat.ble_eq, Nat.blt_eq, Nat.reduceLT, Nat.reduceLeDiff, Int.reduceLT, Int.reduceLE, Int.reduceNeg, Int.reducePow, decide_true, decide_false, Bool.and_self, Bool.and_true, Bool.true_and, Bool.not_true, Bool.not_false, beq_self_eq_true, ite_true, ite_false, if_true, if_false, Nat.reduceAdd, Nat.reduceSub, Nat.zero_add, Bool.false_eq_true, reduceIte, ixM, lenN, lenM, hq, e, hq', hg]
  exact ⟨_, _, rfl, List.getElem_mem _, hP, ⟨by omega, fun r _ n => hK r n⟩⟩
theorem r_pot (as : List MV) : rp F (k + 1) 8 as mh = bodyR d__law_pot 2 3 ⟨rp F k, F⟩ as mh := rfl
theorem pot_spec {ns : List Int} {i : Nat} (hi : i ≤ 2) : ∃ mh' p, rp F (k + 1) 8 [.fl (ns.map .int), .int i] mh = .ok (.loc p) mh' ∧ Pot mh' p ∧ Fr p mh mh' := by
  rw [r_pot]
  unfold d__law_pot
  have mA : mulOk 2591 i = true := by simp [mulOk]
  have mC : ∀ x : Int, mulOk x 40014 = true := by simp [mulOk]
  have mB : mulOk 6653 i = true := by simp [mulOk]
  have fin : ∀ c : Int, ∃ mh' p, (Rs.ok (MV.loc mh.length) (mh ++ [MO.lst [MV.int (if c - 1000000000000000000 > 0 then c - 1000000000000000000 else 0), MV.int ((c % 2147483549 * 40014 + 6653 * i + 1777) % 2147483563 + 1)]])) = .ok (.loc p) mh' ∧ Pot mh' p ∧ Fr p mh mh' := by
    intro c
    have b1 := Int.emod_nonneg (c % 2147483549 * 40014 + 6653 * i + 1777) (b := 2147483563) (by decide)
    have b2 := Int.emod_lt_of_pos (c % 2147483549 * 40014 + 6653 * i + 1777) (b := 2147483563) (by decide)
    exact ⟨_, _, rfl, ⟨_, _, (by rw [List.getElem?_append_right (Nat.le_refl _), Nat.sub_self]; rfl), by split <;> omega, by omega, by omega⟩, Fr.app⟩
  by_cases h : (i : Int) < (ns.length : Int)
  · have hj : i < ns.length := by omega
    have hg : getM (ns.map MV.int) (i : Int) = some (.int ns[i]) := by rw [getM_nat]; simp [hj]
    simp only [lim, bodyR, seqS, setS, asgS, retS, retNS, exprS, ifS, passS, par2S, par3S, toS, bnd, op1D, op2D, opND, nilD, consD, varD, conD, boolD, truD, trM, andD, orD, notD, ifD, andV, orV, callD, callM, callKD, methD, sliceD, partD, noPartD, lft, tupG, nameG, consG, nilG, List.map_cons, List.map_nil, List.length_cons, List.length_nil, List.cons_append, List.nil_append, List.append_nil, List.getElem?_cons_zero, List.getElem?_cons_succ, List.set_cons_zero, List.set_cons_succ, List.replicate, Nat.beq_eq, Nat.ble_eq, Nat.blt_eq, Nat.reduceLT, Nat.reduceLeDiff, Int.reduceLT, Int.reduceLE, Int.reduceNeg, Int.reducePow, decide_true, decide_false, Bool.and_self, Bool.and_true, Bool.true_and, Bool.not_true, Bool.not_false, beq_self_eq_true, ite_true, ite_false, if_true, if_false, Nat.reduceAdd, Nat.reduceSub, Nat.zero_add, Bool.false_eq_true, reduceIte, ltM, h, lenN, lenM, List.length_map, ixM, hg, absN, powM, subM, maxN, intN, modM, mC, mulM, mB, addM, lstM, show (0:Int) ≤ 18 from by decide, show (18:Int) ≤ 1000000 from by decide, show Nat.blt (Int.natAbs 10) 18446744073709551616 = true from rfl, Int.toNat]
    exact fin _
  · simp only [lim, bodyR, seqS, setS, asgS, retS, retNS, exprS, ifS, passS, par2S, par3S, toS, bnd, op1D, op2D, opND, nilD, consD, varD, conD, boolD, truD, trM, andD, orD, notD, ifD, andV, orV, callD, callM, callKD, methD, sliceD, partD, noPartD, lft, tupG, nameG, consG, nilG, List.map_cons, List.map_nil, List.length_cons, List.length_nil, List.cons_append, List.nil_append, List.append_nil, List.getElem?_cons_zero, List.getElem?_cons_succ, List.set_cons_zero, List.set_cons_succ, List.replicate, Nat.beq_eq, Nat.ble_eq, Nat.blt_eq, Nat.reduceLT, Nat.reduceLeDiff, Int.reduceLT, Int.reduceLE, Int.reduceNeg, Int.reducePow, decide_true, decide_false, Bool.and_self, Bool.and_true, Bool.true_and, Bool.not_true, Bool.not_false, beq_self_eq_true, ite_true, ite_false, if_true, if_false, Nat.reduceAdd, Nat.reduceSub, Nat.zero_add, Bool.false_eq_true, reduceIte, ltM, h, lenN, lenM, List.length_map, powM, subM, maxN, intN, modM, mA, mC, mulM, mB, addM, lstM, show Nat.blt (Int.natAbs 10) 18446744073709551616 = true from rfl, Int.toNat]
    exact fin _
end K11
end L2
end
section
/-! K11D: word sizes. -/
namespace L2
namespace K11
open PySem PySem.Spec PyProof.Rows L2.Vf
variable {F k : Nat} {mh : MH}
def sgn : List Nat := [40, 41, 44, 61, 60, 43, 46]
def figs : List Nat := [48, 49, 50, 51, 52, 53, 54, 55, 56, 57]
def lets : List Nat := [97, 98, 99, 100, 101, 102, 103, 104, 105, 106, 107, 108, 109, 110, 111, 112, 113, 114, 115, 116, 117, 118, 119, 120, 121, 122]
def aln (c : Nat) : Bool := memL c (lets ++ figs)
def runL : Nat → List Nat → Nat
  | 0, _ => 0
  | _ + 1, [] => 0
  | n + 1, c :: r => if aln c = true then runL n r + 1 else 0
def sz : List Nat → Nat
  | [] => 0
  | c :: r => if (memL c sgn || Nat.beq c 48) = true then 1 else if memL c figs = true then (match r with
    | d :: _ => if memL d figs = true then 2 else 1
    | [] => 1) else if memL c lets = true then runL 19 r + 1 else 0
theorem gS : g_SIGNS = .str sgn := rfl
theorem gF : g_FIGURES = .str figs := rfl
theorem gL : g_LETTERS = .str lets := rfl
theorem lLF : lets.length + figs.length ≤ 16777216 := by decide
theorem r_wsz (as : List MV) : rp F (k + 1) 2 as mh = bodyR d_word_size 2 3 ⟨rp F k, F⟩ as mh := rfl
theorem wsz_loop {rt : Rt} {cs : List Nat} {at_ : Nat} (hl : cs.length ≤ 16777216) : ∀ m s n : Nat, s + m = 20 → m < n → at_ + s ≤ cs.length →
    whileL wc_word_size_0 wb_word_size_1 rt n [some (.str cs), some (.int at_), some (.int s)] mh = .nx [some (.str cs), some (.int at_), some (.int ((s + runL m (cs.drop (at_ + s)) : Nat)))] mh
  | 0, s, n + 1, h1, h2, h3 => by
    have h : ¬ ((s : Int) < 20) := by omega
    refine whileL_false ?_
    unfold wc_word_size_0
    simp only [lim, bodyR, seqS, setS, asgS, retS, retNS, exprS, ifS, passS, par2S, par3S, toS, bnd, op1D, op2D, opND, nilD, consD, varD, conD, boolD, truD, trM, andD, orD, notD, ifD, andV, orV, callD, callM, callKD, methD, sliceD, partD, noPartD, lft, tupG, nameG, consG, nilG, List.map_cons, List.map_nil, List.length_cons, List.length_nil, List.cons_append, List.nil_append, List.append_nil, List.getElem?_cons_zero, List.getElem?_cons_succ, List.set_cons_zero, List.set_cons_succ, List.replicate, Nat.beq_eq, Nat.ble_eq, Nat.blt_eq, Nat.reduceLT, Nat.reduceLeDiff, Int.reduceLT, Int.reduceLE, Int.reduceNeg, Int.reducePow, decide_true, decide_false, Bool.and_self, Bool.and_true, Bool.true_and, Bool.not_true, Bool.not_false, beq_self_eq_true, ite_true, ite_false, if_true, if_false, Nat.reduceAdd, Nat.reduceSub, Nat.zero_add, Bool.false_eq_true, reduceIte, ltM, g_MOST_LETTERS, h]
  | m + 1, s, n + 1, h1, h2, h3 => by
    have h : ((s : Int) < 20) := by omega
    by_cases he : ((at_ : Int) + s) < cs.length
    · have hlt : at_ + s < cs.length := by omega
      have hd : cs.drop (at_ + s) = cs[at_ + s] :: cs.drop (at_ + s + 1) := List.drop_eq_getElem_cons hlt
      have hg : getC cs ((at_ : Int) + s) = some cs[at_ + s] := by rw [getC_nat2]; exact List.getElem?_eq_getElem hlt
      rw [hd]
      generalize cs[at_ + s] = c at *
      by_cases ha : aln c = true
      · have ih := wsz_loop (rt := rt) (at_ := at_) hl m (s + 1) n (by omega) (by omega) (by omega)
        have e : s + 1 + runL m (cs.drop (at_ + (s + 1))) = s + runL (m + 1) (c :: cs.drop (at_ + s + 1)) := by
          rw [runL, if_pos ha, show at_ + (s + 1) = at_ + s + 1 from rfl]; omega
        rw [← e, ← ih]
        refine whileL_true (mh1 := mh) ?_ ?_
        · unfold wc_word_size_0
          unfold aln at ha
          simp only [lim, bodyR, seqS, setS, asgS, retS, retNS, exprS, ifS, passS, par2S, par3S, toS, bnd, op1D, op2D, opND, nilD, consD, varD, conD, boolD, truD, trM, andD, orD, notD, ifD, andV, orV, callD, callM, callKD, methD, sliceD, partD, noPartD, lft, tupG, nameG, consG, nilG, List.map_cons, List.map_nil, List.length_cons, List.length_nil, List.cons_append, List.nil_append, List.append_nil, List.getElem?_cons_zero, List.getElem?_cons_succ, List.set_cons_zero, List.set_cons_succ, List.replicate, Nat.beq_eq, Nat.ble_eq, Nat.blt_eq, Nat.reduceLT, Nat.reduceLeDiff, Int.reduceLT, Int.reduceLE, Int.reduceNeg, Int.reducePow, decide_true, decide_false, Bool.and_self, Bool.and_true, Bool.true_and, Bool.not_true, Bool.not_false, beq_self_eq_true, ite_true, ite_false, if_true, if_false, Nat.reduceAdd, Nat.reduceSub, Nat.zero_add, Bool.false_eq_true, reduceIte, ltM, g_MOST_LETTERS, h, addM, lenN, lenM, hl, he, ixM, hg, inM, inB, gL, gF, lLF]
          exact congrArg (fun b => Rs.ok b mh) ha
        · unfold wb_word_size_1
          simp only [lim, bodyR, seqS, setS, asgS, retS, retNS, exprS, ifS, passS, par2S, par3S, toS, bnd, op1D, op2D, opND, nilD, consD, varD, conD, boolD, truD, trM, andD, orD, notD, ifD, andV, orV, callD, callM, callKD, methD, sliceD, partD, noPartD, lft, tupG, nameG, consG, nilG, List.map_cons, List.map_nil, List.length_cons, List.length_nil, List.cons_append, List.nil_append, List.append_nil, List.getElem?_cons_zero, List.getElem?_cons_succ, List.set_cons_zero, List.set_cons_succ, List.replicate, Nat.beq_eq, Nat.ble_eq, Nat.blt_eq, Nat.reduceLT, Nat.reduceLeDiff, Int.reduceLT, Int.reduceLE, Int.reduceNeg, Int.reducePow, decide_true, decide_false, Bool.and_self, Bool.and_true, Bool.true_and, Bool.not_true, Bool.not_false, beq_self_eq_true, ite_true, ite_false, if_true, if_false, Nat.reduceAdd, Nat.reduceSub, Nat.zero_add, Bool.false_eq_true, reduceIte, addM]
          rfl
      · have e : s + runL (m + 1) (c :: cs.drop (at_ + s + 1)) = s := by rw [runL, if_neg ha]; rfl
        rw [e]
        refine whileL_false ?_
        unfold wc_word_size_0
        unfold aln at ha
        simp only [lim, bodyR, seqS, setS, asgS, retS, retNS, exprS, ifS, passS, par2S, par3S, toS, bnd, op1D, op2D, opND, nilD, consD, varD, conD, boolD, truD, trM, andD, orD, notD, ifD, andV, orV, callD, callM, callKD, methD, sliceD, partD, noPartD, lft, tupG, nameG, consG, nilG, List.map_cons, List.map_nil, List.length_cons, List.length_nil, List.cons_append, List.nil_append, List.append_nil, List.getElem?_cons_zero, List.getElem?_cons_succ, List.set_cons_zero, List.set_cons_succ, List.replicate, Nat.beq_eq, Nat.ble_eq, Nat.blt_eq, Nat.reduceLT, Nat.reduceLeDiff, Int.reduceLT, Int.reduceLE, Int.reduceNeg, Int.reducePow, decide_true, decide_false, Bool.and_self, Bool.and_true, Bool.true_and, Bool.not_true, Bool.not_false, beq_self_eq_true, ite_true, ite_false, if_true, if_false, Nat.reduceAdd, Nat.reduceSub, Nat.zero_add, Bool.false_eq_true, reduceIte, ltM, g_MOST_LETTERS, h, addM, lenN, lenM, hl, he, ixM, hg, inM, inB, gL, gF, lLF]
        exact congrArg (fun b => Rs.ok b mh) (Bool.eq_false_iff.mpr ha)
    · have hd : cs.drop (at_ + s) = [] := List.drop_of_length_le (by omega)
      rw [hd]
      refine whileL_false ?_
      unfold wc_word_size_0
      simp only [lim, bodyR, seqS, setS, asgS, retS, retNS, exprS, ifS, passS, par2S, par3S, toS, bnd, op1D, op2D, opND, nilD, consD, varD, conD, boolD, truD, trM, andD, orD, notD, ifD, andV, orV, callD, callM, callKD, methD, sliceD, partD, noPartD, lft, tupG, nameG, consG, nilG, List.map_cons, List.map_nil, List.length_cons, List.length_nil, List.cons_append, List.nil_append, List.append_nil, List.getElem?_cons_zero, List.getElem?_cons_succ, List.set_cons_zero, List.set_cons_succ, List.replicate, Nat.beq_eq, Nat.ble_eq, Nat.blt_eq, Nat.reduceLT, Nat.reduceLeDiff, Int.reduceLT, Int.reduceLE, Int.reduceNeg, Int.reducePow, decide_true, decide_false, Bool.and_self, Bool.and_true, Bool.true_and, Bool.not_true, Bool.not_false, beq_self_eq_true, ite_true, ite_false, if_true, if_false, Nat.reduceAdd, Nat.reduceSub, Nat.zero_add, Bool.false_eq_true, reduceIte, ltM, g_MOST_LETTERS, h, addM, lenN, lenM, hl, he]
theorem wsz_spec {cs : List Nat} {at_ : Nat} (hl : cs.length ≤ 16777216) (h : at_ < cs.length) (hF : 20 ≤ F) : rp F (k + 1) 2 [.str cs, .int at_] mh = .ok (.int (sz (cs.drop at_))) mh := by
  rw [r_wsz]
  unfold d_word_size
  have hd : cs.drop at_ = cs[at_] :: cs.drop (at_ + 1) := List.drop_eq_getElem_cons h
  have hg : getC cs (at_ : Int) = some cs[at_] := by rw [getC_nat]; exact List.getElem?_eq_getElem h
  rw [hd]
  generalize cs[at_] = c at *
  have hsl : cutG cs (some ((at_ : Int) + 1)) (some ((at_ : Int) + 2)) = (cs.drop (at_ + 1)).take 1 := by
    have := cutG_nat cs (at_ + 1) (at_ + 2)
    rw [show at_ + 2 - (at_ + 1) = 1 from by omega] at this
    exact this
  have hg1 : getC cs ((at_ : Int) + 1) = (cs.drop (at_ + 1))[0]? := by
    rw [getC_nat1, List.getElem?_drop]
  have hw := wsz_loop (mh := mh) (rt := ⟨rp F k, F⟩) (at_ := at_) hl 19 1 F (by omega) (by omega) (by omega)
  generalize cs.drop (at_ + 1) = r at *
  unfold sz
  have q : beqL [c] [48] = Nat.beq c 48 := Bool.and_true _
  cases a1 : memL c sgn with
  | true =>
    simp only [lim, bodyR, seqS, setS, asgS, retS, retNS, exprS, ifS, passS, par2S, par3S, toS, bnd, op1D, op2D, opND, nilD, consD, varD, conD, boolD, truD, trM, andD, orD, notD, ifD, andV, orV, callD, callM, callKD, methD, sliceD, partD, noPartD, lft, tupG, nameG, consG, nilG, List.map_cons, List.map_nil, List.length_cons, List.length_nil, List.cons_append, List.nil_append, List.append_nil, List.getElem?_cons_zero, List.getElem?_cons_succ, List.set_cons_zero, List.set_cons_succ, List.replicate, Nat.beq_eq, Nat.ble_eq, Nat.blt_eq, Nat.reduceLT, Nat.reduceLeDiff, Int.reduceLT, Int.reduceLE, Int.reduceNeg, Int.reducePow, decide_true, decide_false, Bool.and_self, Bool.and_true, Bool.true_and, Bool.not_true, Bool.not_false, beq_self_eq_true, ite_true, ite_false, if_true, if_false, Nat.reduceAdd, Nat.reduceSub, Nat.zero_add, Bool.false_eq_true, reduceIte, ixM, hg, hl, inM, inB, gS, a1, Bool.true_or, Bool.true_or, Bool.or_true, Bool.or_false]
    rfl
  | false =>
    cases a2 : Nat.beq c 48 with
    | true =>
      simp only [lim, bodyR, seqS, setS, asgS, retS, retNS, exprS, ifS, passS, par2S, par3S, toS, bnd, op1D, op2D, opND, nilD, consD, varD, conD, boolD, truD, trM, andD, orD, notD, ifD, andV, orV, callD, callM, callKD, methD, sliceD, partD, noPartD, lft, tupG, nameG, consG, nilG, List.map_cons, List.map_nil, List.length_cons, List.length_nil, List.cons_append, List.nil_append, List.append_nil, List.getElem?_cons_zero, List.getElem?_cons_succ, List.set_cons_zero, List.set_cons_succ, List.replicate, Nat.beq_eq, Nat.ble_eq, Nat.blt_eq, Nat.reduceLT, Nat.reduceLeDiff, Int.reduceLT, Int.reduceLE, Int.reduceNeg, Int.reducePow, decide_true, decide_false, Bool.and_self, Bool.and_true, Bool.true_and, Bool.not_true, Bool.not_false, beq_self_eq_true, ite_true, ite_false, if_true, if_false, Nat.reduceAdd, Nat.reduceSub, Nat.zero_add, Bool.false_eq_true, reduceIte, ixM, hg, hl, inM, inB, gS, a1, eqM, eqB, q, a2, Bool.or_true, Bool.true_or, Bool.or_true, Bool.or_false]
      rfl
    | false =>
      cases a3 : memL c figs with
      | true =>
        cases r with
        | nil =>
          have q2 : beqL ([] : List Nat) [] = true := rfl
          simp only [lim, bodyR, seqS, setS, asgS, retS, retNS, exprS, ifS, passS, par2S, par3S, toS, bnd, op1D, op2D, opND, nilD, consD, varD, conD, boolD, truD, trM, andD, orD, notD, ifD, andV, orV, callD, callM, callKD, methD, sliceD, partD, noPartD, lft, tupG, nameG, consG, nilG, List.map_cons, List.map_nil, List.length_cons, List.length_nil, List.cons_append, List.nil_append, List.append_nil, List.getElem?_cons_zero, List.getElem?_cons_succ, List.set_cons_zero, List.set_cons_succ, List.replicate, Nat.beq_eq, Nat.ble_eq, Nat.blt_eq, Nat.reduceLT, Nat.reduceLeDiff, Int.reduceLT, Int.reduceLE, Int.reduceNeg, Int.reducePow, decide_true, decide_false, Bool.and_self, Bool.and_true, Bool.true_and, Bool.not_true, Bool.not_false, beq_self_eq_true, ite_true, ite_false, if_true, if_false, Nat.reduceAdd, Nat.reduceSub, Nat.zero_add, Bool.false_eq_true, reduceIte, ixM, hg, hl, inM, inB, gS, gF, a1, a2, a3, eqM, eqB, q, neM, addM, sliceM, hsl, List.take_nil, q2, Bool.or_self, Bool.true_or, Bool.or_true, Bool.or_false]
          rfl
        | cons d r =>
          have q2 : beqL [d] ([] : List Nat) = false := rfl
          cases a4 : memL d figs with
          | true =>
            simp only [lim, bodyR, seqS, setS, asgS, retS, retNS, exprS, ifS, passS, par2S, par3S, toS, bnd, op1D, op2D, opND, nilD, consD, varD, conD, boolD, truD, trM, andD, orD, notD, ifD, andV, orV, callD, callM, callKD, methD, sliceD, partD, noPartD, lft, tupG, nameG, consG, nilG, List.map_cons, List.map_nil, List.length_cons, List.length_nil, List.cons_append, List.nil_append, List.append_nil, List.getElem?_cons_zero, List.getElem?_cons_succ, List.set_cons_zero, List.set_cons_succ, List.replicate, Nat.beq_eq, Nat.ble_eq, Nat.blt_eq, Nat.reduceLT, Nat.reduceLeDiff, Int.reduceLT, Int.reduceLE, Int.reduceNeg, Int.reducePow, decide_true, decide_false, Bool.and_self, Bool.and_true, Bool.true_and, Bool.not_true, Bool.not_false, beq_self_eq_true, ite_true, ite_false, if_true, if_false, Nat.reduceAdd, Nat.reduceSub, Nat.zero_add, Bool.false_eq_true, reduceIte, ixM, hg, hl, inM, inB, gS, gF, a1, a2, a3, eqM, eqB, q, neM, addM, sliceM, hsl, List.take_succ_cons, List.take_zero, hg1, q2, a4, Bool.or_self, Bool.true_or, Bool.or_true, Bool.or_false]
            rfl
          | false =>
            simp only [lim, bodyR, seqS, setS, asgS, retS, retNS, exprS, ifS, passS, par2S, par3S, toS, bnd, op1D, op2D, opND, nilD, consD, varD, conD, boolD, truD, trM, andD, orD, notD, ifD, andV, orV, callD, callM, callKD, methD, sliceD, partD, noPartD, lft, tupG, nameG, consG, nilG, List.map_cons, List.map_nil, List.length_cons, List.length_nil, List.cons_append, List.nil_append, List.append_nil, List.getElem?_cons_zero, List.getElem?_cons_succ, List.set_cons_zero, List.set_cons_succ, List.replicate, Nat.beq_eq, Nat.ble_eq, Nat.blt_eq, Nat.reduceLT, Nat.reduceLeDiff, Int.reduceLT, Int.reduceLE, Int.reduceNeg, Int.reducePow, decide_true, decide_false, Bool.and_self, Bool.and_true, Bool.true_and, Bool.not_true, Bool.not_false, beq_self_eq_true, ite_true, ite_false, if_true, if_false, Nat.reduceAdd, Nat.reduceSub, Nat.zero_add, Bool.false_eq_true, reduceIte, ixM, hg, hl, inM, inB, gS, gF, a1, a2, a3, eqM, eqB, q, neM, addM, sliceM, hsl, List.take_succ_cons, List.take_zero, hg1, q2, a4, Bool.or_self, Bool.true_or, Bool.or_true, Bool.or_false]
            rfl
      | false =>
        cases a5 : memL c lets with
        | false =>
          simp only [lim, bodyR, seqS, setS, asgS, retS, retNS, exprS, ifS, passS, par2S, par3S, toS, bnd, op1D, op2D, opND, nilD, consD, varD, conD, boolD, truD, trM, andD, orD, notD, ifD, andV, orV, callD, callM, callKD, methD, sliceD, partD, noPartD, lft, tupG, nameG, consG, nilG, List.map_cons, List.map_nil, List.length_cons, List.length_nil, List.cons_append, List.nil_append, List.append_nil, List.getElem?_cons_zero, List.getElem?_cons_succ, List.set_cons_zero, List.set_cons_succ, List.replicate, Nat.beq_eq, Nat.ble_eq, Nat.blt_eq, Nat.reduceLT, Nat.reduceLeDiff, Int.reduceLT, Int.reduceLE, Int.reduceNeg, Int.reducePow, decide_true, decide_false, Bool.and_self, Bool.and_true, Bool.true_and, Bool.not_true, Bool.not_false, beq_self_eq_true, ite_true, ite_false, if_true, if_false, Nat.reduceAdd, Nat.reduceSub, Nat.zero_add, Bool.false_eq_true, reduceIte, ixM, hg, hl, inM, inB, gS, gF, gL, a1, a2, a3, eqM, eqB, q, notinM, a5, Bool.or_self, Bool.true_or, Bool.or_true, Bool.or_false]
          rfl
        | true =>
          have hw : whileL wc_word_size_0 wb_word_size_1 { call := rp F k, fuel := F } F [some (MV.str cs), some (MV.int at_), some (MV.int 1)] mh = RsS.nx [some (MV.str cs), some (MV.int at_), some (MV.int (1 + runL 19 r : Nat))] mh := hw
          simp only [lim, bodyR, seqS, setS, asgS, retS, retNS, exprS, ifS, passS, par2S, par3S, toS, bnd, op1D, op2D, opND, nilD, consD, varD, conD, boolD, truD, trM, andD, orD, notD, ifD, andV, orV, callD, callM, callKD, methD, sliceD, partD, noPartD, lft, tupG, nameG, consG, nilG, List.map_cons, List.map_nil, List.length_cons, List.length_nil, List.cons_append, List.nil_append, List.append_nil, List.getElem?_cons_zero, List.getElem?_cons_succ, List.set_cons_zero, List.set_cons_succ, List.replicate, Nat.beq_eq, Nat.ble_eq, Nat.blt_eq, Nat.reduceLT, Nat.reduceLeDiff, Int.reduceLT, Int.reduceLE, Int.reduceNeg, Int.reducePow, decide_true, decide_false, Bool.and_self, Bool.and_true, Bool.true_and, Bool.not_true, Bool.not_false, beq_self_eq_true, ite_true, ite_false, if_true, if_false, Nat.reduceAdd, Nat.reduceSub, Nat.zero_add, Bool.false_eq_true, reduceIte, ixM, hg, hl, inM, inB, gS, gF, gL, a1, a2, a3, eqM, eqB, q, notinM, a5, Bool.or_self, whileS, hw]
          rw [Nat.add_comm]
end K11
end L2
end
section
/-! K11E: the law's own word length, the end of a remark. -/
namespace L2
namespace K11
open PySem PySem.Spec PyProof.Rows L2.Vf
variable {F k : Nat} {mh : MH}
theorem r_len (as : List MV) : rp F (k + 1) 11 as mh = bodyR d__law_length 1 4 ⟨rp F k, F⟩ as mh := rfl
theorem runL_le : ∀ (n : Nat) (l : List Nat), runL n l ≤ n ∧ runL n l ≤ l.length
  | 0, _ => ⟨Nat.le_refl _, Nat.zero_le _⟩
  | n + 1, [] => ⟨Nat.zero_le _, Nat.le_refl _⟩
  | n + 1, c :: r => by
    unfold runL
    have := runL_le n r
    split
    · exact ⟨by omega, by simp; omega⟩
    · exact ⟨by omega, by omega⟩
theorem len_loop {rt : Rt} {cs : List Nat} (hl : cs.length ≤ 16777216) : ∀ (m i n : Nat) (z : Option MV), i + m = 19 → m < n → 1 + i ≤ cs.length →
    (runL m (cs.drop (1 + i)) = m ∧ ∃ z', forL (nxtR 1 19) (nameG 1) fb__law_length_0 rt n i [some (.str cs), z, some (.str lets), some (.str figs)] mh = .nx [some (.str cs), z', some (.str lets), some (.str figs)] mh) ∨
    (runL m (cs.drop (1 + i)) < m ∧ forL (nxtR 1 19) (nameG 1) fb__law_length_0 rt n i [some (.str cs), z, some (.str lets), some (.str figs)] mh = .rt (.int (1 + i + runL m (cs.drop (1 + i)) : Nat)) mh)
  | 0, i, n + 1, z, h1, h2, h3 => by
    refine .inl ⟨rfl, z, forL_end ?_⟩
    unfold nxtR
    rw [show Nat.blt i 19 = false from by rw [show i = 19 from by omega]; rfl]
    rfl
  | m + 1, i, n + 1, z, h1, h2, h3 => by
    have hn : nxtR 1 19 i mh = some (some (.int (1 + (i : Int)))) := by
      unfold nxtR
      rw [show Nat.blt i 19 = true from by rw [Nat.blt_eq]; omega]
      rfl
    have hc : ((1 + i : Nat) : Int) = 1 + (i : Int) := by omega
    by_cases he : 1 + i = cs.length
    · have hd : cs.drop (1 + i) = [] := List.drop_of_length_le (by omega)
      rw [hd]
      refine .inr ⟨by rw [runL]; omega, ?_⟩
      refine forL_rt hn rfl ?_
      unfold fb__law_length_0
      have he2 : (1 + (i : Int)) = cs.length := by omega
      simp only [lim, bodyR, seqS, setS, asgS, retS, retNS, exprS, ifS, passS, par2S, par3S, toS, bnd, op1D, op2D, opND, nilD, consD, varD, conD, boolD, truD, trM, andD, orD, notD, ifD, andV, orV, callD, callM, callKD, methD, sliceD, partD, noPartD, lft, tupG, nameG, consG, nilG, List.map_cons, List.map_nil, List.length_cons, List.length_nil, List.cons_append, List.nil_append, List.append_nil, List.getElem?_cons_zero, List.getElem?_cons_succ, List.set_cons_zero, List.set_cons_succ, List.replicate, Nat.beq_eq, Nat.ble_eq, Nat.blt_eq, Nat.reduceLT, Nat.reduceLeDiff, Int.reduceLT, Int.reduceLE, Int.reduceNeg, Int.reducePow, decide_true, decide_false, Bool.and_self, Bool.and_true, Bool.true_and, Bool.not_true, Bool.not_false, beq_self_eq_true, ite_true, ite_false, if_true, if_false, Nat.reduceAdd, Nat.reduceSub, Nat.zero_add, Bool.false_eq_true, reduceIte, eqM, eqB, lenN, lenM, hl, he2]
      rw [runL, Nat.add_zero, he]
    · have hlt : 1 + i < cs.length := by omega
      have hd : cs.drop (1 + i) = cs[1 + i] :: cs.drop (1 + i + 1) := List.drop_eq_getElem_cons hlt
      have hg : getC cs (1 + (i : Int)) = some cs[1 + i] := by
        rw [← hc, getC_nat]; exact List.getElem?_eq_getElem hlt
      have he2 : ¬ (1 + (i : Int)) = cs.length := by omega
      rw [hd]
      generalize cs[1 + i] = c at *
      cases ha : aln c with
      | true =>
        have ha' := ha
        unfold aln at ha'
        have st : forL (nxtR 1 19) (nameG 1) fb__law_length_0 rt (n + 1) i [some (.str cs), z, some (.str lets), some (.str figs)] mh = forL (nxtR 1 19) (nameG 1) fb__law_length_0 rt n (i + 1) [some (.str cs), some (.int (1 + (i : Int))), some (.str lets), some (.str figs)] mh := by
          refine forL_next hn rfl ?_
          unfold fb__law_length_0
          simp only [lim, bodyR, seqS, setS, asgS, retS, retNS, exprS, ifS, passS, par2S, par3S, toS, bnd, op1D, op2D, opND, nilD, consD, varD, conD, boolD, truD, trM, andD, orD, notD, ifD, andV, orV, callD, callM, callKD, methD, sliceD, partD, noPartD, lft, tupG, nameG, consG, nilG, List.map_cons, List.map_nil, List.length_cons, List.length_nil, List.cons_append, List.nil_append, List.append_nil, List.getElem?_cons_zero, List.getElem?_cons_succ, List.set_cons_zero, List.set_cons_succ, List.replicate, Nat.beq_eq, Nat.ble_eq, Nat.blt_eq, Nat.reduceLT, Nat.reduceLeDiff, Int.reduceLT, Int.reduceLE, Int.reduceNeg, Int.reducePow, decide_true, decide_false, Bool.and_self, Bool.and_true, Bool.true_and, Bool.not_true, Bool.not_false, beq_self_eq_true, ite_true, ite_false, if_true, if_false, Nat.reduceAdd, Nat.reduceSub, Nat.zero_add, Bool.false_eq_true, reduceIte, eqM, eqB, lenN, lenM, hl, he2, notinM, inB, ixM, hg, addM, lLF, ha']
        have ih := len_loop (rt := rt) hl m (i + 1) n (some (.int (1 + (i : Int)))) (by omega) (by omega) (by omega)
        rw [st]
        have e : runL (m + 1) (c :: cs.drop (1 + i + 1)) = runL m (cs.drop (1 + (i + 1))) + 1 := by rw [runL, if_pos ha]; rfl
        rw [e]
        rcases ih with ⟨a, b⟩ | ⟨a, b⟩
        · exact .inl ⟨by omega, b⟩
        · refine .inr ⟨by omega, ?_⟩
          rw [b]
          congr 2
          omega
      | false =>
        have ha' := ha
        unfold aln at ha'
        have e : runL (m + 1) (c :: cs.drop (1 + i + 1)) = 0 := by rw [runL, if_neg (by rw [ha]; simp)]
        rw [e]
        refine .inr ⟨by omega, ?_⟩
        refine forL_rt hn rfl ?_
        unfold fb__law_length_0
        simp only [lim, bodyR, seqS, setS, asgS, retS, retNS, exprS, ifS, passS, par2S, par3S, toS, bnd, op1D, op2D, opND, nilD, consD, varD, conD, boolD, truD, trM, andD, orD, notD, ifD, andV, orV, callD, callM, callKD, methD, sliceD, partD, noPartD, lft, tupG, nameG, consG, nilG, List.map_cons, List.map_nil, List.length_cons, List.length_nil, List.cons_append, List.nil_append, List.append_nil, List.getElem?_cons_zero, List.getElem?_cons_succ, List.set_cons_zero, List.set_cons_succ, List.replicate, Nat.beq_eq, Nat.ble_eq, Nat.blt_eq, Nat.reduceLT, Nat.reduceLeDiff, Int.reduceLT, Int.reduceLE, Int.reduceNeg, Int.reducePow, decide_true, decide_false, Bool.and_self, Bool.and_true, Bool.true_and, Bool.not_true, Bool.not_false, beq_self_eq_true, ite_true, ite_false, if_true, if_false, Nat.reduceAdd, Nat.reduceSub, Nat.zero_add, Bool.false_eq_true, reduceIte, eqM, eqB, lenN, lenM, hl, he2, notinM, inB, ixM, hg, addM, lLF, ha']
        rw [Nat.add_zero, ← hc]
theorem len_spec {c : Nat} {r : List Nat} (hl : (c :: r).length ≤ 16777216) (hF : 20 ≤ F) : rp F (k + 1) 11 [.str (c :: r)] mh = .ok (.int (sz (c :: r))) mh := by
  rw [r_len]
  unfold d__law_length
  have hg : getC (c :: r) 0 = some c := rfl
  have hg1 : getC (c :: r) 1 = r[0]? := rfl
  have hw := len_loop (mh := mh) (rt := ⟨rp F k, F⟩) hl 19 0 F none (by omega) (by omega) (by simp)
  have gA : ([97, 98, 99, 100, 101, 102, 103, 104, 105, 106, 107, 108, 109, 110, 111, 112, 113, 114, 115, 116, 117, 118, 119, 120, 121, 122] : List Nat) = lets := rfl
  have gB : ([48, 49, 50, 51, 52, 53, 54, 55, 56, 57] : List Nat) = figs := rfl
  have gC : memL c [40, 41, 44, 61, 60, 43, 46, 48] = (memL c sgn || Nat.beq c 48) := by simp [memL, sgn, Bool.or_assoc]
  simp only [gA, gB]
  have hl0 := hl
  have hl : r.length ≤ 16777215 := by simp at hl; omega
  cases a1 : (memL c sgn || Nat.beq c 48) with
  | true =>
    simp only [lim, bodyR, seqS, setS, asgS, retS, retNS, exprS, ifS, passS, par2S, par3S, toS, bnd, op1D, op2D, opND, nilD, consD, varD, conD, boolD, truD, trM, andD, orD, notD, ifD, andV, orV, callD, callM, callKD, methD, sliceD, partD, noPartD, lft, tupG, nameG, consG, nilG, List.map_cons, List.map_nil, List.length_cons, List.length_nil, List.cons_append, List.nil_append, List.append_nil, List.getElem?_cons_zero, List.getElem?_cons_succ, List.set_cons_zero, List.set_cons_succ, List.replicate, Nat.beq_eq, Nat.ble_eq, Nat.blt_eq, Nat.reduceLT, Nat.reduceLeDiff, Int.reduceLT, Int.reduceLE, Int.reduceNeg, Int.reducePow, decide_true, decide_false, Bool.and_self, Bool.and_true, Bool.true_and, Bool.not_true, Bool.not_false, beq_self_eq_true, ite_true, ite_false, if_true, if_false, Nat.reduceAdd, Nat.reduceSub, Nat.zero_add, Bool.false_eq_true, reduceIte, tupM, ixM, hg, hl, inM, inB, gC, a1]
    simp only [sz, a1]
    rfl
  | false =>
    cases a3 : memL c figs with
    | true =>
      cases r with
      | nil =>
        simp only [lim, bodyR, seqS, setS, asgS, retS, retNS, exprS, ifS, passS, par2S, par3S, toS, bnd, op1D, op2D, opND, nilD, consD, varD, conD, boolD, truD, trM, andD, orD, notD, ifD, andV, orV, callD, callM, callKD, methD, sliceD, partD, noPartD, lft, tupG, nameG, consG, nilG, List.map_cons, List.map_nil, List.length_cons, List.length_nil, List.cons_append, List.nil_append, List.append_nil, List.getElem?_cons_zero, List.getElem?_cons_succ, List.set_cons_zero, List.set_cons_succ, List.replicate, Nat.beq_eq, Nat.ble_eq, Nat.blt_eq, Nat.reduceLT, Nat.reduceLeDiff, Int.reduceLT, Int.reduceLE, Int.reduceNeg, Int.reducePow, decide_true, decide_false, Bool.and_self, Bool.and_true, Bool.true_and, Bool.not_true, Bool.not_false, beq_self_eq_true, ite_true, ite_false, if_true, if_false, Nat.reduceAdd, Nat.reduceSub, Nat.zero_add, Bool.false_eq_true, reduceIte, tupM, ixM, hg, hl, inM, inB, gC, a1, a3, lenN, lenM, gtM]
        simp only [sz, a1, a3]
        rfl
      | cons d r =>
        have hg1 : getC (c :: d :: r) 1 = some d := rfl
        have hh : ((1 : Int) < ((r.length + 1 + 1 : Nat) : Int)) := by omega
        have hl : r.length ≤ 16777214 := by simp at hl; omega
        cases a4 : memL d figs with
        | true =>
          simp only [lim, bodyR, seqS, setS, asgS, retS, retNS, exprS, ifS, passS, par2S, par3S, toS, bnd, op1D, op2D, opND, nilD, consD, varD, conD, boolD, truD, trM, andD, orD, notD, ifD, andV, orV, callD, callM, callKD, methD, sliceD, partD, noPartD, lft, tupG, nameG, consG, nilG, List.map_cons, List.map_nil, List.length_cons, List.length_nil, List.cons_append, List.nil_append, List.append_nil, List.getElem?_cons_zero, List.getElem?_cons_succ, List.set_cons_zero, List.set_cons_succ, List.replicate, Nat.beq_eq, Nat.ble_eq, Nat.blt_eq, Nat.reduceLT, Nat.reduceLeDiff, Int.reduceLT, Int.reduceLE, Int.reduceNeg, Int.reducePow, decide_true, decide_false, Bool.and_self, Bool.and_true, Bool.true_and, Bool.not_true, Bool.not_false, beq_self_eq_true, ite_true, ite_false, if_true, if_false, Nat.reduceAdd, Nat.reduceSub, Nat.zero_add, Bool.false_eq_true, reduceIte, tupM, ixM, hg, hl, inM, inB, gC, a1, a3, lenN, lenM, gtM, hg1, hh, a4]
          simp only [sz, a1, a3, a4]
          rfl
        | false =>
          simp only [lim, bodyR, seqS, setS, asgS, retS, retNS, exprS, ifS, passS, par2S, par3S, toS, bnd, op1D, op2D, opND, nilD, consD, varD, conD, boolD, truD, trM, andD, orD, notD, ifD, andV, orV, callD, callM, callKD, methD, sliceD, partD, noPartD, lft, tupG, nameG, consG, nilG, List.map_cons, List.map_nil, List.length_cons, List.length_nil, List.cons_append, List.nil_append, List.append_nil, List.getElem?_cons_zero, List.getElem?_cons_succ, List.set_cons_zero, List.set_cons_succ, List.replicate, Nat.beq_eq, Nat.ble_eq, Nat.blt_eq, Nat.reduceLT, Nat.reduceLeDiff, Int.reduceLT, Int.reduceLE, Int.reduceNeg, Int.reducePow, decide_true, decide_false, Bool.and_self, Bool.and_true, Bool.true_and, Bool.not_true, Bool.not_false, beq_self_eq_true, ite_true, ite_false, if_true, if_false, Nat.reduceAdd, Nat.reduceSub, Nat.zero_add, Bool.false_eq_true, reduceIte, tupM, ixM, hg, hl, inM, inB, gC, a1, a3, lenN, lenM, gtM, hg1, hh, a4]
          simp only [sz, a1, a3, a4]
          rfl
    | false =>
      cases a5 : memL c lets with
      | false =>
        simp only [lim, bodyR, seqS, setS, asgS, retS, retNS, exprS, ifS, passS, par2S, par3S, toS, bnd, op1D, op2D, opND, nilD, consD, varD, conD, boolD, truD, trM, andD, orD, notD, ifD, andV, orV, callD, callM, callKD, methD, sliceD, partD, noPartD, lft, tupG, nameG, consG, nilG, List.map_cons, List.map_nil, List.length_cons, List.length_nil, List.cons_append, List.nil_append, List.append_nil, List.getElem?_cons_zero, List.getElem?_cons_succ, List.set_cons_zero, List.set_cons_succ, List.replicate, Nat.beq_eq, Nat.ble_eq, Nat.blt_eq, Nat.reduceLT, Nat.reduceLeDiff, Int.reduceLT, Int.reduceLE, Int.reduceNeg, Int.reducePow, decide_true, decide_false, Bool.and_self, Bool.and_true, Bool.true_and, Bool.not_true, Bool.not_false, beq_self_eq_true, ite_true, ite_false, if_true, if_false, Nat.reduceAdd, Nat.reduceSub, Nat.zero_add, Bool.false_eq_true, reduceIte, tupM, ixM, hg, hl, inM, inB, gC, a1, a3, notinM, a5]
        simp only [sz, a1, a3, a5]
        rfl
      | true =>
        have hR : Vf.inR 1 = true ∧ Vf.inR 20 = true := ⟨rfl, rfl⟩
        have q : sz (c :: r) = runL 19 r + 1 := by
          simp only [sz, a1, a3, a5]
          rfl
        rw [q]
        have hw : (runL 19 r = 19 ∧ ∃ z', forL (nxtR 1 19) (nameG 1) fb__law_length_0 ⟨rp F k, F⟩ F 0 [some (.str (c :: r)), none, some (.str lets), some (.str figs)] mh = .nx [some (.str (c :: r)), z', some (.str lets), some (.str figs)] mh) ∨
          (runL 19 r < 19 ∧ forL (nxtR 1 19) (nameG 1) fb__law_length_0 ⟨rp F k, F⟩ F 0 [some (.str (c :: r)), none, some (.str lets), some (.str figs)] mh = .rt (.int (1 + 0 + runL 19 r : Nat)) mh) := hw
        have tn : ((20 : Int) - 1).toNat = 19 := rfl
        rcases hw with ⟨w1, z', w2⟩ | ⟨w1, w2⟩
        · simp only [lim, bodyR, seqS, setS, asgS, retS, retNS, exprS, ifS, passS, par2S, par3S, toS, bnd, op1D, op2D, opND, nilD, consD, varD, conD, boolD, truD, trM, andD, orD, notD, ifD, andV, orV, callD, callM, callKD, methD, sliceD, partD, noPartD, lft, tupG, nameG, consG, nilG, List.map_cons, List.map_nil, List.length_cons, List.length_nil, List.cons_append, List.nil_append, List.append_nil, List.getElem?_cons_zero, List.getElem?_cons_succ, List.set_cons_zero, List.set_cons_succ, List.replicate, Nat.beq_eq, Nat.ble_eq, Nat.blt_eq, Nat.reduceLT, Nat.reduceLeDiff, Int.reduceLT, Int.reduceLE, Int.reduceNeg, Int.reducePow, decide_true, decide_false, Bool.and_self, Bool.and_true, Bool.true_and, Bool.not_true, Bool.not_false, beq_self_eq_true, ite_true, ite_false, if_true, if_false, Nat.reduceAdd, Nat.reduceSub, Nat.zero_add, Bool.false_eq_true, reduceIte, tupM, ixM, hg, hl, inM, inB, gC, a1, a3, notinM, a5, forS, rng2I, hR, tn, w2]
          rw [w1]; rfl
        · simp only [lim, bodyR, seqS, setS, asgS, retS, retNS, exprS, ifS, passS, par2S, par3S, toS, bnd, op1D, op2D, opND, nilD, consD, varD, conD, boolD, truD, trM, andD, orD, notD, ifD, andV, orV, callD, callM, callKD, methD, sliceD, partD, noPartD, lft, tupG, nameG, consG, nilG, List.map_cons, List.map_nil, List.length_cons, List.length_nil, List.cons_append, List.nil_append, List.append_nil, List.getElem?_cons_zero, List.getElem?_cons_succ, List.set_cons_zero, List.set_cons_succ, List.replicate, Nat.beq_eq, Nat.ble_eq, Nat.blt_eq, Nat.reduceLT, Nat.reduceLeDiff, Int.reduceLT, Int.reduceLE, Int.reduceNeg, Int.reducePow, decide_true, decide_false, Bool.and_self, Bool.and_true, Bool.true_and, Bool.not_true, Bool.not_false, beq_self_eq_true, ite_true, ite_false, if_true, if_false, Nat.reduceAdd, Nat.reduceSub, Nat.zero_add, Bool.false_eq_true, reduceIte, tupM, ixM, hg, hl, inM, inB, gC, a1, a3, notinM, a5, forS, rng2I, hR, tn, w2]
          rw [Nat.add_comm]
end K11
end L2
end
section
/-! K11F: plain: the words of a text, as a relation; splits. -/
namespace L2
namespace K11
open PySem PySem.Spec PyProof.Rows L2.Vf
/-! ### splits -/
def jn (s : Nat) : List (List Nat) → List Nat
  | [] => []
  | [p] => p
  | p :: q :: r => p ++ s :: jn s (q :: r)
theorem jn_join (s : Nat) : ∀ xs : List Str, (Str.join (S [s]) xs).cps.toList = jn s (xs.map fun x => x.cps.toList)
  | [] => rfl
  | [p] => rfl
  | p :: q :: r => by
    show (p ++ S [s] ++ Str.join (S [s]) (q :: r)).cps.toList = p.cps.toList ++ s :: jn s ((q :: r).map fun x => x.cps.toList)
    rw [← jn_join s (q :: r)]
    show (p.cps ++ #[s] ++ (Str.join (S [s]) (q :: r)).cps).toList = _
    simp
def parts (s : Nat) (cs : List Nat) : List (List Nat) := (Txt.split (S cs) (S [s])).map fun x => x.cps.toList
theorem parts_jn (s : Nat) (cs : List Nat) : jn s (parts s cs) = cs := by
  unfold parts
  rw [← jn_join, StrLaws.join_split, S_cps]
theorem parts_free (s : Nat) (cs : List Nat) : ∀ p ∈ parts s cs, s ∉ p := by
  intro p hp
  obtain ⟨x, hx, rfl⟩ := List.mem_map.mp hp
  exact StrLaws.split_free (S cs) s x hx
theorem parts_pos (s : Nat) (cs : List Nat) : parts s cs ≠ [] := by
  have := split_pos (S cs) (S [s])
  unfold parts
  intro h
  rw [List.map_eq_nil_iff] at h
  rw [h] at this
  simp at this
theorem strL_parts (s : Nat) (cs : List Nat) : strL (Txt.split (S cs) (S [s])) = (parts s cs).map .str := by
  unfold strL parts
  rw [List.map_map]; rfl
theorem parts_len (s : Nat) (cs : List Nat) : (parts s cs).length ≤ cs.length + 2 := by
  unfold parts
  rw [List.length_map]
  exact Nat.le_trans (split_le (S cs) (S [s])) (by rw [S_len]; exact Nat.le_refl _)
/-- the part ahead of the first sign s, and what stands behind -/
theorem parts_head (s : Nat) (cs : List Nat) : ∃ p r t, parts s cs = p :: r ∧ cs = p ++ t ∧ s ∉ p ∧ (t = [] ∨ ∃ t', t = s :: t') := by
  have h1 := parts_jn s cs
  have h2 := parts_free s cs
  have h3 := parts_pos s cs
  cases e : parts s cs with
  | nil => exact absurd e h3
  | cons p r =>
    rw [e] at h1 h2
    cases r with
    | nil => exact ⟨p, [], [], rfl, by rw [← h1]; simp [jn], h2 p List.mem_cons_self, .inl rfl⟩
    | cons q r => exact ⟨p, q :: r, s :: jn s (q :: r), rfl, by rw [← h1]; rfl, h2 p List.mem_cons_self, .inr ⟨_, rfl⟩⟩
/-! ### words -/
abbrev Wd := List Nat × Nat × Nat
abbrev Res := List Wd × Option (Nat × Nat)
inductive Tk : List Nat → Nat → Nat → List Wd → Res → Prop
  | nil {l c : Nat} {acc : List Wd} : Tk [] l c acc (acc, none)
  | nl {r : List Nat} {l c : Nat} {acc : List Wd} {z : Res} : Tk r (l + 1) 0 acc z → Tk (10 :: r) l c acc z
  | sp {r : List Nat} {l c : Nat} {acc : List Wd} {z : Res} : Tk r l (c + 1) acc z → Tk (32 :: r) l c acc z
  | rem {j r : List Nat} {l c : Nat} {acc : List Wd} {z : Res} : 10 ∉ j → (r = [] ∨ ∃ t, r = 10 :: t) → Tk r l (c + (j.length + 1)) acc z → Tk (35 :: j ++ r) l c acc z
  | wrong {x : Nat} {r : List Nat} {l c : Nat} {acc : List Wd} : x ≠ 10 → x ≠ 32 → x ≠ 35 → sz (x :: r) = 0 → Tk (x :: r) l c acc (acc, some (l, c))
  | word {x : Nat} {r : List Nat} {l c : Nat} {acc : List Wd} {z : Res} : x ≠ 10 → x ≠ 32 → x ≠ 35 → sz (x :: r) ≠ 0 → Tk ((x :: r).drop (sz (x :: r))) l (c + sz (x :: r)) (acc ++ [((x :: r).take (sz (x :: r)), l, c)]) z → Tk (x :: r) l c acc z
theorem sz_cons (c : Nat) (r : List Nat) : sz (c :: r) = if (memL c sgn || Nat.beq c 48) = true then 1 else if memL c figs = true then (match r with
    | d :: _ => if memL d figs = true then 2 else 1
    | [] => 1) else if memL c lets = true then runL 19 r + 1 else 0 := rfl
theorem sz_le (x : Nat) (r : List Nat) : sz (x :: r) ≤ 20 ∧ sz (x :: r) ≤ r.length + 1 := by
  rw [sz_cons]
  have h := runL_le 19 r
  split
  · omega
  · split
    · cases r with
      | nil => simp
      | cons d r => dsimp only; split <;> simp
    · split <;> omega
theorem Tk.bounds {r : List Nat} {l c : Nat} {acc : List Wd} {z : Res} (h : Tk r l c acc z) :
    z.1.length ≤ acc.length + r.length ∧ (∀ e ∈ z.1, e ∈ acc ∨ (e.1.length ≤ 20 ∧ e.2.1 ≤ l + r.length ∧ e.2.2 ≤ c + r.length)) ∧ ∀ p, z.2 = some p → p.1 ≤ l + r.length ∧ p.2 ≤ c + r.length := by
  induction h with
  | nil => exact ⟨by simp, fun e he => .inl he, fun p hp => (by cases hp)⟩
  | nl _ ih =>
    obtain ⟨h1, h2, h3⟩ := ih
    refine ⟨by simp; omega, fun e he => ?_, fun p hp => ?_⟩
    · rcases h2 e he with q | ⟨q1, q2, q3⟩
      · exact .inl q
      · exact .inr ⟨q1, by simp; omega, by simp; omega⟩
    · have := h3 p hp
      exact ⟨by simp; omega, by simp; omega⟩
  | sp _ ih =>
    obtain ⟨h1, h2, h3⟩ := ih
    refine ⟨by simp; omega, fun e he => ?_, fun p hp => ?_⟩
    · rcases h2 e he with q | ⟨q1, q2, q3⟩
      · exact .inl q
      · exact .inr ⟨q1, by simp; omega, by simp; omega⟩
    · have := h3 p hp
      exact ⟨by simp; omega, by simp; omega⟩
  | rem _ _ _ ih =>
    obtain ⟨h1, h2, h3⟩ := ih
    refine ⟨by simp; omega, fun e he => ?_, fun p hp => ?_⟩
    · rcases h2 e he with q | ⟨q1, q2, q3⟩
      · exact .inl q
      · exact .inr ⟨q1, by simp; omega, by simp; omega⟩
    · have := h3 p hp
      exact ⟨by simp; omega, by simp; omega⟩
  | wrong _ _ _ _ => exact ⟨by simp, fun e he => .inl he, fun p hp => (by cases hp; exact ⟨by simp, by simp⟩)⟩
  | @word x r l c acc z _ _ _ hs _ ih =>
    obtain ⟨h1, h2, h3⟩ := ih
    have hz := sz_le x r
    simp only [List.length_drop, List.length_append, List.length_cons, List.length_nil] at h1 h2 h3
    refine ⟨by simp; omega, fun e he => ?_, fun p hp => ?_⟩
    · rcases h2 e he with q | ⟨q1, q2, q3⟩
      · rcases List.mem_append.mp q with q | q
        · exact .inl q
        · cases List.mem_singleton.mp q
          exact .inr ⟨by simp; omega, by simp, by simp⟩
      · exact .inr ⟨q1, by simp; omega, by simp; omega⟩
    · have := h3 p hp
      exact ⟨by simp; omega, by simp; omega⟩
/-! ### a break: the text's end, a line feed, a remark -/
def Brk (t : List Nat) : Prop := t = [] ∨ ∃ x t', t = x :: t' ∧ (x = 10 ∨ x = 35)
theorem runL_brk {t : List Nat} (h : Brk t) : ∀ (n : Nat) (r : List Nat), runL n (r ++ t) = runL n r
  | 0, _ => rfl
  | n + 1, [] => by
    rcases h with rfl | ⟨x, t', rfl, rfl | rfl⟩
    · rfl
    · rfl
    · rfl
  | n + 1, c :: r => by
    show runL (n + 1) (c :: (r ++ t)) = _
    unfold runL
    rw [runL_brk h n r]
theorem sz_brk {t : List Nat} (h : Brk t) (x : Nat) (r : List Nat) : sz (x :: (r ++ t)) = sz (x :: r) := by
  rw [sz_cons, sz_cons, runL_brk h 19 r]
  cases r with
  | cons d r => rfl
  | nil =>
    rcases h with rfl | ⟨x, t', rfl, rfl | rfl⟩
    · rfl
    · rfl
    · rfl
end K11
end L2
end
section
/-! K11G: the program takes a text apart as the relation tells. -/
namespace L2
namespace K11
open PySem PySem.Spec PyProof.Rows L2.Vf
variable {F k : Nat} {mh : MH}
theorem r_rem (as : List MV) : rp F (k + 1) 3 as mh = bodyR d_behind_remark 2 3 ⟨rp F k, F⟩ as mh := rfl
theorem get_drop {cs x : List Nat} {at_ i : Nat} (h : cs.drop at_ = x) : cs[at_ + i]? = x[i]? := by rw [← h, List.getElem?_drop]
theorem find_rem {cs j r : List Nat} {at_ : Nat} (h : cs.drop at_ = 35 :: j ++ r) (hj : 10 ∉ j) (hr : r = [] ∨ ∃ t, r = 10 :: t) :
    (Txt.find3 (S cs) (S [10]) (at_ : Int) = -1 ∧ cs.length = at_ + (j.length + 1)) ∨ Txt.find3 (S cs) (S [10]) (at_ : Int) = ((at_ + (j.length + 1) : Nat) : Int) := by
  have hlen : cs.length - at_ = j.length + 1 + r.length := by
    have := congrArg List.length h
    simp at this
    omega
  have hf : PySem.fromIndex (S cs).length (at_ : Int) = at_ := by
    unfold PySem.fromIndex
    rw [if_neg (by omega)]
    omega
  have gd : ∀ v, (S cs).cps.getD v 0 = cs.getD v 0 := fun v => by simp [S]
  have gl : (S cs).length = cs.length := S_len cs
  have no : ∀ i, i < j.length + 1 → cs.getD (at_ + i) 0 ≠ 10 := by
    intro i hi e
    have q : cs[at_ + i]? = (35 :: j ++ r)[i]? := get_drop h
    rw [List.getElem?_append_left (by simpa using hi)] at q
    have q2 : cs.getD (at_ + i) 0 = (cs[at_ + i]?).getD 0 := by simp
    rw [q2, q] at e
    rcases Nat.eq_zero_or_pos i with rfl | hp
    · simp at e
    · obtain ⟨i', rfl⟩ : ∃ i', i = i' + 1 := ⟨i - 1, by omega⟩
      simp only [List.getElem?_cons_succ] at e
      cases z : j[i']? with
      | none => rw [z] at e; simp at e
      | some y =>
        rw [z] at e
        have e : y = 10 := e
        subst e
        exact hj (List.mem_of_getElem? z)
  rcases StrLaws.find3_spec (S cs) 10 (at_ : Int) with ⟨e, hn⟩ | ⟨i, e, h1, h2, h3, h4⟩
  · refine .inl ⟨e, ?_⟩
    rcases hr with rfl | ⟨t, rfl⟩
    · simp at hlen; omega
    · exfalso
      simp only [List.length_cons] at hlen
      refine hn (at_ + (j.length + 1)) (by rw [hf]; omega) (by rw [gl]; omega) ?_
      rw [gd]
      have q : cs[at_ + (j.length + 1)]? = (35 :: j ++ 10 :: t)[j.length + 1]? := get_drop h
      rw [List.getElem?_append_right (by simp)] at q
      simp only [List.length_cons, Nat.sub_self, List.getElem?_cons_zero] at q
      simp [q]
  · refine .inr ?_
    have e : Txt.find3 (S cs) (S [10]) (at_ : Int) = (i : Int) := e
    rw [e]
    rw [hf] at h1 h4
    rw [gl] at h2
    rw [gd] at h3
    have a1 : at_ + (j.length + 1) ≤ i := by
      apply Classical.byContradiction
      intro hh
      have := no (i - at_) (by omega)
      rw [show at_ + (i - at_) = i from by omega] at this
      exact this h3
    rcases hr with rfl | ⟨t, rfl⟩
    · simp at hlen; omega
    · apply Classical.byContradiction
      intro hh
      refine h4 (at_ + (j.length + 1)) (by omega) (by omega) ?_
      rw [gd]
      have q : cs[at_ + (j.length + 1)]? = (35 :: j ++ 10 :: t)[j.length + 1]? := get_drop h
      rw [List.getElem?_append_right (by simp)] at q
      simp only [List.length_cons, Nat.sub_self, List.getElem?_cons_zero] at q
      simp [q]
theorem rem_spec {cs j r : List Nat} {at_ : Nat} (hl : cs.length ≤ 16777216) (h : cs.drop at_ = 35 :: j ++ r) (hj : 10 ∉ j) (hr : r = [] ∨ ∃ t, r = 10 :: t) : rp F (k + 1) 3 [.str cs, .int at_] mh = .ok (.int ((at_ + (j.length + 1) : Nat) : Int)) mh := by
  rw [r_rem]
  unfold d_behind_remark
  rcases find_rem h hj hr with ⟨e, e2⟩ | e
  · simp only [lim, bodyR, seqS, setS, asgS, retS, retNS, exprS, ifS, passS, par2S, par3S, toS, bnd, op1D, op2D, opND, nilD, consD, varD, conD, boolD, truD, trM, andD, orD, notD, ifD, andV, orV, callD, callM, callKD, methD, sliceD, partD, noPartD, lft, tupG, nameG, consG, nilG, List.map_cons, List.map_nil, List.length_cons, List.length_nil, List.cons_append, List.nil_append, List.append_nil, List.getElem?_cons_zero, List.getElem?_cons_succ, List.set_cons_zero, List.set_cons_succ, List.replicate, Nat.beq_eq, Nat.ble_eq, Nat.blt_eq, Nat.reduceLT, Nat.reduceLeDiff, Int.reduceLT, Int.reduceLE, Int.reduceNeg, Int.reducePow, decide_true, decide_false, Bool.and_self, Bool.and_true, Bool.true_and, Bool.not_true, Bool.not_false, beq_self_eq_true, ite_true, ite_false, if_true, if_false, Nat.reduceAdd, Nat.reduceSub, Nat.zero_add, Bool.false_eq_true, reduceIte, isStrM, findM, e, ltM, lenN, lenM, hl]
    rw [e2]
  · have hh : ¬ (((at_ + (j.length + 1) : Nat) : Int) < 0) := by omega
    simp only [lim, bodyR, seqS, setS, asgS, retS, retNS, exprS, ifS, passS, par2S, par3S, toS, bnd, op1D, op2D, opND, nilD, consD, varD, conD, boolD, truD, trM, andD, orD, notD, ifD, andV, orV, callD, callM, callKD, methD, sliceD, partD, noPartD, lft, tupG, nameG, consG, nilG, List.map_cons, List.map_nil, List.length_cons, List.length_nil, List.cons_append, List.nil_append, List.append_nil, List.getElem?_cons_zero, List.getElem?_cons_succ, List.set_cons_zero, List.set_cons_succ, List.replicate, Nat.beq_eq, Nat.ble_eq, Nat.blt_eq, Nat.reduceLT, Nat.reduceLeDiff, Int.reduceLT, Int.reduceLE, Int.reduceNeg, Int.reducePow, decide_true, decide_false, Bool.and_self, Bool.and_true, Bool.true_and, Bool.not_true, Bool.not_false, beq_self_eq_true, ite_true, ite_false, if_true, if_false, Nat.reduceAdd, Nat.reduceSub, Nat.zero_add, Bool.false_eq_true, reduceIte, isStrM, findM, e, ltM, lenN, lenM, hl, hh]
/-! ### the program's taking -/
def enc (w : Wd) : MV := .tup [.str w.1, .int w.2.1, .int w.2.2]
def encP (p : Nat × Nat) : MV := .tup [.int p.1, .int p.2]
def encO : Option (Nat × Nat) → MV
  | none => .non
  | some p => encP p
theorem r_tk (as : List MV) : rp F (k + 1) 4 as mh = bodyR d_taken_apart 1 6 ⟨rp F k, F⟩ as mh := rfl
theorem set_same {α : Type} {l : List α} {i : Nat} {a : α} (h : l[i]? = some a) : l.set i a = l := by
  apply List.ext_getElem?
  intro j
  by_cases e : i = j
  · subst e
    rw [List.getElem?_set_self (List.getElem?_eq_some_iff.mp h).1, h]
  · rw [List.getElem?_set_ne e]
theorem tk_loop {cs r : List Nat} {l c : Nat} {acc : List Wd} {z : Res} (hl : cs.length ≤ 16777216) (hF : 20 ≤ F) (h : Tk r l c acc z) : ∀ (mh : MH) (f b n : Nat) (s : Option MV), acc.length + r.length < 16777216 → cs.drop (b + c) = r → b + c ≤ cs.length → r.length < n → mh[f]? = some (.lst (acc.map enc)) →
    (z.2 = none ∧ ∃ l' b' c' s', whileL wc_taken_apart_0 wb_taken_apart_1 ⟨rp F (k + 1), F⟩ n [some (.str cs), some (.loc f), some (.int l), some (.int b), some (.int (b + c : Nat)), s] mh = .nx [some (.str cs), some (.loc f), some (.int l'), some (.int b'), some (.int c'), s'] (mh.set f (.lst (z.1.map enc)))) ∨
    ∃ p, z.2 = some p ∧ whileL wc_taken_apart_0 wb_taken_apart_1 ⟨rp F (k + 1), F⟩ n [some (.str cs), some (.loc f), some (.int l), some (.int b), some (.int (b + c : Nat)), s] mh = .rt (.tup [.loc f, encP p, encP p]) (mh.set f (.lst (z.1.map enc))) := by
  induction h with
  | @nil l c acc =>
    intro mh f b n s hA hd hb hn hf
    obtain ⟨n, rfl⟩ : ∃ m, n = m + 1 := ⟨n - 1, by simp at hn; omega⟩
    have hlen : ¬ (((b + c : Nat) : Int) < cs.length) := by
      have := congrArg List.length hd
      simp at this
      omega
    refine .inl ⟨rfl, l, b, ((b + c : Nat) : Int), s, ?_⟩
    rw [set_same hf]
    refine whileL_false ?_
    unfold wc_taken_apart_0
    simp only [lim, bodyR, seqS, setS, asgS, retS, retNS, exprS, ifS, passS, par2S, par3S, toS, bnd, op1D, op2D, opND, nilD, consD, varD, conD, boolD, truD, trM, andD, orD, notD, ifD, andV, orV, callD, callM, callKD, methD, sliceD, partD, noPartD, lft, tupG, nameG, consG, nilG, List.map_cons, List.map_nil, List.length_cons, List.length_nil, List.cons_append, List.nil_append, List.append_nil, List.getElem?_cons_zero, List.getElem?_cons_succ, List.set_cons_zero, List.set_cons_succ, List.replicate, Nat.beq_eq, Nat.ble_eq, Nat.blt_eq, Nat.reduceLT, Nat.reduceLeDiff, Int.reduceLT, Int.reduceLE, Int.reduceNeg, Int.reducePow, decide_true, decide_false, Bool.and_self, Bool.and_true, Bool.true_and, Bool.not_true, Bool.not_false, beq_self_eq_true, ite_true, ite_false, if_true, if_false, Nat.reduceAdd, Nat.reduceSub, Nat.zero_add, Bool.false_eq_true, reduceIte, ltM, lenN, lenM, hl, hlen]
  | @nl r l c acc z h ih =>
    intro mh f b n s hA hd hb hn hf
    obtain ⟨n, rfl⟩ : ∃ m, n = m + 1 := ⟨n - 1, by simp at hn; omega⟩
    have hlt : b + c < cs.length := by
      have := congrArg List.length hd
      simp at this
      omega
    have hlt' : (((b + c : Nat) : Int) < cs.length) := by omega
    have hg : getC cs ((b + c : Nat) : Int) = some 10 := by
      rw [getC_nat]
      have := get_drop (i := 0) hd
      simpa using this
    have hd2 : cs.drop (b + c + 1) = r := by
      have := congrArg (List.drop 1) hd
      rw [List.drop_drop] at this
      simpa using this
    have ih := ih mh f (b + c + 1) n s (by simp at hA ⊢; omega) (by simpa using hd2) (by omega) (by simp at hn; omega) hf
    have st : whileL wc_taken_apart_0 wb_taken_apart_1 ⟨rp F (k + 1), F⟩ (n + 1) [some (.str cs), some (.loc f), some (.int l), some (.int b), some (.int (b + c : Nat)), s] mh = whileL wc_taken_apart_0 wb_taken_apart_1 ⟨rp F (k + 1), F⟩ n [some (.str cs), some (.loc f), some (.int ((l + 1 : Nat) : Int)), some (.int ((b + c + 1 : Nat) : Int)), some (.int ((b + c + 1 + 0 : Nat) : Int)), s] mh := by
      refine whileL_true (mh1 := mh) ?_ ?_
      · unfold wc_taken_apart_0
        simp only [lim, bodyR, seqS, setS, asgS, retS, retNS, exprS, ifS, passS, par2S, par3S, toS, bnd, op1D, op2D, opND, nilD, consD, varD, conD, boolD, truD, trM, andD, orD, notD, ifD, andV, orV, callD, callM, callKD, methD, sliceD, partD, noPartD, lft, tupG, nameG, consG, nilG, List.map_cons, List.map_nil, List.length_cons, List.length_nil, List.cons_append, List.nil_append, List.append_nil, List.getElem?_cons_zero, List.getElem?_cons_succ, List.set_cons_zero, List.set_cons_succ, List.replicate, Nat.beq_eq, Nat.ble_eq, Nat.blt_eq, Nat.reduceLT, Nat.reduceLeDiff, Int.reduceLT, Int.reduceLE, Int.reduceNeg, Int.reducePow, decide_true, decide_false, Bool.and_self, Bool.and_true, Bool.true_and, Bool.not_true, Bool.not_false, beq_self_eq_true, ite_true, ite_false, if_true, if_false, Nat.reduceAdd, Nat.reduceSub, Nat.zero_add, Bool.false_eq_true, reduceIte, ltM, lenN, lenM, hl, hlt']
      · unfold wb_taken_apart_1
        simp only [lim, bodyR, seqS, setS, asgS, retS, retNS, exprS, ifS, passS, par2S, par3S, toS, bnd, op1D, op2D, opND, nilD, consD, varD, conD, boolD, truD, trM, andD, orD, notD, ifD, andV, orV, callD, callM, callKD, methD, sliceD, partD, noPartD, lft, tupG, nameG, consG, nilG, List.map_cons, List.map_nil, List.length_cons, List.length_nil, List.cons_append, List.nil_append, List.append_nil, List.getElem?_cons_zero, List.getElem?_cons_succ, List.set_cons_zero, List.set_cons_succ, List.replicate, Nat.beq_eq, Nat.ble_eq, Nat.blt_eq, Nat.reduceLT, Nat.reduceLeDiff, Int.reduceLT, Int.reduceLE, Int.reduceNeg, Int.reducePow, decide_true, decide_false, Bool.and_self, Bool.and_true, Bool.true_and, Bool.not_true, Bool.not_false, beq_self_eq_true, ite_true, ite_false, if_true, if_false, Nat.reduceAdd, Nat.reduceSub, Nat.zero_add, Bool.false_eq_true, reduceIte, ixM, hg, hl, eqM, eqB, show beqL [10] [10] = true from rfl, addM]
        rfl
    rw [st]
    exact ih
  | @sp r l c acc z h ih =>
    intro mh f b n s hA hd hb hn hf
    obtain ⟨n, rfl⟩ : ∃ m, n = m + 1 := ⟨n - 1, by simp at hn; omega⟩
    have hlt : b + c < cs.length := by
      have := congrArg List.length hd
      simp at this
      omega
    have hlt' : (((b + c : Nat) : Int) < cs.length) := by omega
    have hg : getC cs ((b + c : Nat) : Int) = some 32 := by
      rw [getC_nat]
      have := get_drop (i := 0) hd
      simpa using this
    have hd2 : cs.drop (b + c + 1) = r := by
      have := congrArg (List.drop 1) hd
      rw [List.drop_drop] at this
      simpa using this
    have ih := ih mh f b n s (by simp at hA ⊢; omega) hd2 (by omega) (by simp at hn; omega) hf
    have st : whileL wc_taken_apart_0 wb_taken_apart_1 ⟨rp F (k + 1), F⟩ (n + 1) [some (.str cs), some (.loc f), some (.int l), some (.int b), some (.int (b + c : Nat)), s] mh = whileL wc_taken_apart_0 wb_taken_apart_1 ⟨rp F (k + 1), F⟩ n [some (.str cs), some (.loc f), some (.int l), some (.int b), some (.int ((b + (c + 1) : Nat) : Int)), s] mh := by
      refine whileL_true (mh1 := mh) ?_ ?_
      · unfold wc_taken_apart_0
        simp only [lim, bodyR, seqS, setS, asgS, retS, retNS, exprS, ifS, passS, par2S, par3S, toS, bnd, op1D, op2D, opND, nilD, consD, varD, conD, boolD, truD, trM, andD, orD, notD, ifD, andV, orV, callD, callM, callKD, methD, sliceD, partD, noPartD, lft, tupG, nameG, consG, nilG, List.map_cons, List.map_nil, List.length_cons, List.length_nil, List.cons_append, List.nil_append, List.append_nil, List.getElem?_cons_zero, List.getElem?_cons_succ, List.set_cons_zero, List.set_cons_succ, List.replicate, Nat.beq_eq, Nat.ble_eq, Nat.blt_eq, Nat.reduceLT, Nat.reduceLeDiff, Int.reduceLT, Int.reduceLE, Int.reduceNeg, Int.reducePow, decide_true, decide_false, Bool.and_self, Bool.and_true, Bool.true_and, Bool.not_true, Bool.not_false, beq_self_eq_true, ite_true, ite_false, if_true, if_false, Nat.reduceAdd, Nat.reduceSub, Nat.zero_add, Bool.false_eq_true, reduceIte, ltM, lenN, lenM, hl, hlt']
      · unfold wb_taken_apart_1
        simp only [lim, bodyR, seqS, setS, asgS, retS, retNS, exprS, ifS, passS, par2S, par3S, toS, bnd, op1D, op2D, opND, nilD, consD, varD, conD, boolD, truD, trM, andD, orD, notD, ifD, andV, orV, callD, callM, callKD, methD, sliceD, partD, noPartD, lft, tupG, nameG, consG, nilG, List.map_cons, List.map_nil, List.length_cons, List.length_nil, List.cons_append, List.nil_append, List.append_nil, List.getElem?_cons_zero, List.getElem?_cons_succ, List.set_cons_zero, List.set_cons_succ, List.replicate, Nat.beq_eq, Nat.ble_eq, Nat.blt_eq, Nat.reduceLT, Nat.reduceLeDiff, Int.reduceLT, Int.reduceLE, Int.reduceNeg, Int.reducePow, decide_true, decide_false, Bool.and_self, Bool.and_true, Bool.true_and, Bool.not_true, Bool.not_false, beq_self_eq_true, ite_true, ite_false, if_true, if_false, Nat.reduceAdd, Nat.reduceSub, Nat.zero_add, Bool.false_eq_true, reduceIte, ixM, hg, hl, eqM, eqB, show beqL [32] [10] = false from rfl, show beqL [32] [32] = true from rfl, addM]
        rfl
    rw [st]
    exact ih
  | @rem j r l c acc z hj hr h ih =>
    intro mh f b n s hA hd hb hn hf
    obtain ⟨n, rfl⟩ : ∃ m, n = m + 1 := ⟨n - 1, by simp at hn; omega⟩
    have hlt : b + c + (j.length + 1) ≤ cs.length := by
      have := congrArg List.length hd
      simp at this
      omega
    have hlt' : (((b + c : Nat) : Int) < cs.length) := by omega
    have hg : getC cs ((b + c : Nat) : Int) = some 35 := by
      rw [getC_nat]
      have := get_drop (i := 0) hd
      simpa using this
    have hd2 : cs.drop (b + (c + (j.length + 1))) = r := by
      have := congrArg (List.drop (j.length + 1)) hd
      rw [List.drop_drop, List.drop_left' (by simp)] at this
      rw [← this, Nat.add_assoc]
    have ih := ih mh f b n s (by simp at hA ⊢; omega) hd2 (by omega) (by simp at hn; omega) hf
    have st : whileL wc_taken_apart_0 wb_taken_apart_1 ⟨rp F (k + 1), F⟩ (n + 1) [some (.str cs), some (.loc f), some (.int l), some (.int b), some (.int (b + c : Nat)), s] mh = whileL wc_taken_apart_0 wb_taken_apart_1 ⟨rp F (k + 1), F⟩ n [some (.str cs), some (.loc f), some (.int l), some (.int b), some (.int ((b + (c + (j.length + 1)) : Nat) : Int)), s] mh := by
      refine whileL_true (mh1 := mh) ?_ ?_
      · unfold wc_taken_apart_0
        simp only [lim, bodyR, seqS, setS, asgS, retS, retNS, exprS, ifS, passS, par2S, par3S, toS, bnd, op1D, op2D, opND, nilD, consD, varD, conD, boolD, truD, trM, andD, orD, notD, ifD, andV, orV, callD, callM, callKD, methD, sliceD, partD, noPartD, lft, tupG, nameG, consG, nilG, List.map_cons, List.map_nil, List.length_cons, List.length_nil, List.cons_append, List.nil_append, List.append_nil, List.getElem?_cons_zero, List.getElem?_cons_succ, List.set_cons_zero, List.set_cons_succ, List.replicate, Nat.beq_eq, Nat.ble_eq, Nat.blt_eq, Nat.reduceLT, Nat.reduceLeDiff, Int.reduceLT, Int.reduceLE, Int.reduceNeg, Int.reducePow, decide_true, decide_false, Bool.and_self, Bool.and_true, Bool.true_and, Bool.not_true, Bool.not_false, beq_self_eq_true, ite_true, ite_false, if_true, if_false, Nat.reduceAdd, Nat.reduceSub, Nat.zero_add, Bool.false_eq_true, reduceIte, ltM, lenN, lenM, hl, hlt']
      · unfold wb_taken_apart_1
        simp only [lim, bodyR, seqS, setS, asgS, retS, retNS, exprS, ifS, passS, par2S, par3S, toS, bnd, op1D, op2D, opND, nilD, consD, varD, conD, boolD, truD, trM, andD, orD, notD, ifD, andV, orV, callD, callM, callKD, methD, sliceD, partD, noPartD, lft, tupG, nameG, consG, nilG, List.map_cons, List.map_nil, List.length_cons, List.length_nil, List.cons_append, List.nil_append, List.append_nil, List.getElem?_cons_zero, List.getElem?_cons_succ, List.set_cons_zero, List.set_cons_succ, List.replicate, Nat.beq_eq, Nat.ble_eq, Nat.blt_eq, Nat.reduceLT, Nat.reduceLeDiff, Int.reduceLT, Int.reduceLE, Int.reduceNeg, Int.reducePow, decide_true, decide_false, Bool.and_self, Bool.and_true, Bool.true_and, Bool.not_true, Bool.not_false, beq_self_eq_true, ite_true, ite_false, if_true, if_false, Nat.reduceAdd, Nat.reduceSub, Nat.zero_add, Bool.false_eq_true, reduceIte, ixM, hg, hl, eqM, eqB, show beqL [35] [10] = false from rfl, show beqL [35] [32] = false from rfl, show beqL [35] [35] = true from rfl, addM, rem_spec hl hd hj hr]
        rw [Nat.add_assoc]
    rw [st]
    exact ih
  | @wrong x r l c acc x1 x2 x3 hs =>
    intro mh f b n s hA hd hb hn hf
    obtain ⟨n, rfl⟩ : ∃ m, n = m + 1 := ⟨n - 1, by simp at hn; omega⟩
    have hlt : b + c < cs.length := by
      have := congrArg List.length hd
      simp at this
      omega
    have hlt' : (((b + c : Nat) : Int) < cs.length) := by omega
    have hg : getC cs ((b + c : Nat) : Int) = some x := by
      rw [getC_nat]
      have := get_drop (i := 0) hd
      simpa using this
    have q : ∀ y, x ≠ y → beqL [x] [y] = false := fun y hy => by rw [beqL_iff]; simp [hy]
    have hw := wsz_spec (F := F) (k := k) (mh := mh) hl hlt hF
    rw [hd, hs] at hw
    have hc : ((b + c : Nat) : Int) - (b : Int) = c := by omega
    refine .inr ⟨(l, c), rfl, ?_⟩
    rw [set_same hf]
    refine whileL_rt (mh1 := mh) ?_ ?_
    · unfold wc_taken_apart_0
      simp only [lim, bodyR, seqS, setS, asgS, retS, retNS, exprS, ifS, passS, par2S, par3S, toS, bnd, op1D, op2D, opND, nilD, consD, varD, conD, boolD, truD, trM, andD, orD, notD, ifD, andV, orV, callD, callM, callKD, methD, sliceD, partD, noPartD, lft, tupG, nameG, consG, nilG, List.map_cons, List.map_nil, List.length_cons, List.length_nil, List.cons_append, List.nil_append, List.append_nil, List.getElem?_cons_zero, List.getElem?_cons_succ, List.set_cons_zero, List.set_cons_succ, List.replicate, Nat.beq_eq, Nat.ble_eq, Nat.blt_eq, Nat.reduceLT, Nat.reduceLeDiff, Int.reduceLT, Int.reduceLE, Int.reduceNeg, Int.reducePow, decide_true, decide_false, Bool.and_self, Bool.and_true, Bool.true_and, Bool.not_true, Bool.not_false, beq_self_eq_true, ite_true, ite_false, if_true, if_false, Nat.reduceAdd, Nat.reduceSub, Nat.zero_add, Bool.false_eq_true, reduceIte, ltM, lenN, lenM, hl, hlt']
    · unfold wb_taken_apart_1
      simp only [lim, bodyR, seqS, setS, asgS, retS, retNS, exprS, ifS, passS, par2S, par3S, toS, bnd, op1D, op2D, opND, nilD, consD, varD, conD, boolD, truD, trM, andD, orD, notD, ifD, andV, orV, callD, callM, callKD, methD, sliceD, partD, noPartD, lft, tupG, nameG, consG, nilG, List.map_cons, List.map_nil, List.length_cons, List.length_nil, List.cons_append, List.nil_append, List.append_nil, List.getElem?_cons_zero, List.getElem?_cons_succ, List.set_cons_zero, List.set_cons_succ, List.replicate, Nat.beq_eq, Nat.ble_eq, Nat.blt_eq, Nat.reduceLT, Nat.reduceLeDiff, Int.reduceLT, Int.reduceLE, Int.reduceNeg, Int.reducePow, decide_true, decide_false, Bool.and_self, Bool.and_true, Bool.true_and, Bool.not_true, Bool.not_false, beq_self_eq_true, ite_true, ite_false, if_true, if_false, Nat.reduceAdd, Nat.reduceSub, Nat.zero_add, Bool.false_eq_true, reduceIte, ixM, hg, hl, eqM, eqB, q 10 x1, q 32 x2, q 35 x3, hw, subM, hc, tupM]
      rfl
  | @word x r l c acc z x1 x2 x3 hs h ih =>
    intro mh f b n s hA hd hb hn hf
    obtain ⟨n, rfl⟩ : ∃ m, n = m + 1 := ⟨n - 1, by simp at hn; omega⟩
    have hz := sz_le x r
    have hlt : b + c + (r.length + 1) = cs.length := by
      have := congrArg List.length hd
      simp at this
      omega
    have hlt' : (((b + c : Nat) : Int) < cs.length) := by omega
    have hg : getC cs ((b + c : Nat) : Int) = some x := by
      rw [getC_nat]
      have := get_drop (i := 0) hd
      simpa using this
    have q : ∀ y, x ≠ y → beqL [x] [y] = false := fun y hy => by rw [beqL_iff]; simp [hy]
    have hw := wsz_spec (F := F) (k := k) (mh := mh) hl (show b + c < cs.length by omega) hF
    rw [hd] at hw
    have hc : ((b + c : Nat) : Int) - (b : Int) = c := by omega
    have hs0 : ¬ ((sz (x :: r) : Int) = 0) := by omega
    have hcut : cutG cs (some ((b + c : Nat) : Int)) (some (((b + c : Nat) : Int) + (sz (x :: r) : Int))) = (x :: r).take (sz (x :: r)) := by
      have := cutG_nat cs (b + c) (b + c + sz (x :: r))
      rw [hd, Nat.add_sub_cancel_left] at this
      exact this
    have hd2 : cs.drop (b + (c + sz (x :: r))) = (x :: r).drop (sz (x :: r)) := by
      have := congrArg (List.drop (sz (x :: r))) hd
      rw [List.drop_drop] at this
      rw [← this, Nat.add_assoc]
    have hlf : f < mh.length := (List.getElem?_eq_some_iff.mp hf).1
    have ih := ih (mh.set f (.lst ((acc ++ [((x :: r).take (sz (x :: r)), l, c)]).map enc))) f b n (some (.int (sz (x :: r)))) (by simp at hA ⊢; omega) hd2 (by omega) (by simp at hn ⊢; omega) (List.getElem?_set_self hlf)
    rw [List.set_set] at ih
    have st : whileL wc_taken_apart_0 wb_taken_apart_1 ⟨rp F (k + 1), F⟩ (n + 1) [some (.str cs), some (.loc f), some (.int l), some (.int b), some (.int (b + c : Nat)), s] mh = whileL wc_taken_apart_0 wb_taken_apart_1 ⟨rp F (k + 1), F⟩ n [some (.str cs), some (.loc f), some (.int l), some (.int b), some (.int ((b + (c + sz (x :: r)) : Nat) : Int)), some (.int (sz (x :: r)))] (mh.set f (.lst ((acc ++ [((x :: r).take (sz (x :: r)), l, c)]).map enc))) := by
      refine whileL_true (mh1 := mh) ?_ ?_
      · unfold wc_taken_apart_0
        simp only [lim, bodyR, seqS, setS, asgS, retS, retNS, exprS, ifS, passS, par2S, par3S, toS, bnd, op1D, op2D, opND, nilD, consD, varD, conD, boolD, truD, trM, andD, orD, notD, ifD, andV, orV, callD, callM, callKD, methD, sliceD, partD, noPartD, lft, tupG, nameG, consG, nilG, List.map_cons, List.map_nil, List.length_cons, List.length_nil, List.cons_append, List.nil_append, List.append_nil, List.getElem?_cons_zero, List.getElem?_cons_succ, List.set_cons_zero, List.set_cons_succ, List.replicate, Nat.beq_eq, Nat.ble_eq, Nat.blt_eq, Nat.reduceLT, Nat.reduceLeDiff, Int.reduceLT, Int.reduceLE, Int.reduceNeg, Int.reducePow, decide_true, decide_false, Bool.and_self, Bool.and_true, Bool.true_and, Bool.not_true, Bool.not_false, beq_self_eq_true, ite_true, ite_false, if_true, if_false, Nat.reduceAdd, Nat.reduceSub, Nat.zero_add, Bool.false_eq_true, reduceIte, ltM, lenN, lenM, hl, hlt']
      · unfold wb_taken_apart_1
        have hA2 : (acc.map enc).length < 16777216 := by simp at hA ⊢; omega
        simp only [lim, bodyR, seqS, setS, asgS, retS, retNS, exprS, ifS, passS, par2S, par3S, toS, bnd, op1D, op2D, opND, nilD, consD, varD, conD, boolD, truD, trM, andD, orD, notD, ifD, andV, orV, callD, callM, callKD, methD, sliceD, partD, noPartD, lft, tupG, nameG, consG, nilG, List.map_cons, List.map_nil, List.length_cons, List.length_nil, List.cons_append, List.nil_append, List.append_nil, List.getElem?_cons_zero, List.getElem?_cons_succ, List.set_cons_zero, List.set_cons_succ, List.replicate, Nat.beq_eq, Nat.ble_eq, Nat.blt_eq, Nat.reduceLT, Nat.reduceLeDiff, Int.reduceLT, Int.reduceLE, Int.reduceNeg, Int.reducePow, decide_true, decide_false, Bool.and_self, Bool.and_true, Bool.true_and, Bool.not_true, Bool.not_false, beq_self_eq_true, ite_true, ite_false, if_true, if_false, Nat.reduceAdd, Nat.reduceSub, Nat.zero_add, Bool.false_eq_true, reduceIte, ixM, hg, hl, eqM, eqB, q 10 x1, q 32 x2, q 35 x3, hw, subM, hc, tupM, hs0, addM, sliceM, hcut, isLstM, hf, appendM, hA2, List.map_append]
        rw [← Nat.add_assoc]
        rfl
    rw [st]
    exact ih
theorem tk_spec {cs : List Nat} {z : Res} (hl : cs.length < 16777216) (hF : cs.length + 20 ≤ F) (h : Tk cs 0 0 [] z) : ∃ v, rp F (k + 2) 4 [.str cs] mh = .ok (.tup [.loc mh.length, encO z.2, v]) (mh ++ [.lst (z.1.map enc)]) := by
  rw [r_tk]
  unfold d_taken_apart
  have g : (mh ++ [MO.lst ([] : List MV)])[mh.length]? = some (.lst (([] : List Wd).map enc)) := by simp
  have gs : ∀ x, (mh ++ [MO.lst ([] : List MV)]).set mh.length x = mh ++ [x] := fun x => by simp
  have w := tk_loop (F := F) (k := k) (by omega) (by omega) h (mh ++ [.lst []]) mh.length 0 F none (by simpa using hl) rfl (Nat.zero_le _) (by omega) g
  rcases w with ⟨e, l', b', c', s', w⟩ | ⟨p, e, w⟩
  · have w : whileL wc_taken_apart_0 wb_taken_apart_1 { call := rp F (k + 1), fuel := F } F [some (MV.str cs), some (MV.loc mh.length), some (MV.int 0), some (MV.int 0), some (MV.int 0), none] (mh ++ [MO.lst []]) = _ := w
    rw [gs] at w
    simp only [lim, bodyR, seqS, setS, asgS, retS, retNS, exprS, ifS, passS, par2S, par3S, toS, bnd, op1D, op2D, opND, nilD, consD, varD, conD, boolD, truD, trM, andD, orD, notD, ifD, andV, orV, callD, callM, callKD, methD, sliceD, partD, noPartD, lft, tupG, nameG, consG, nilG, List.map_cons, List.map_nil, List.length_cons, List.length_nil, List.cons_append, List.nil_append, List.append_nil, List.getElem?_cons_zero, List.getElem?_cons_succ, List.set_cons_zero, List.set_cons_succ, List.replicate, Nat.beq_eq, Nat.ble_eq, Nat.blt_eq, Nat.reduceLT, Nat.reduceLeDiff, Int.reduceLT, Int.reduceLE, Int.reduceNeg, Int.reducePow, decide_true, decide_false, Bool.and_self, Bool.and_true, Bool.true_and, Bool.not_true, Bool.not_false, beq_self_eq_true, ite_true, ite_false, if_true, if_false, Nat.reduceAdd, Nat.reduceSub, Nat.zero_add, Bool.false_eq_true, reduceIte, lstM, tupM, whileS, w, subM]
    rw [e]
    exact ⟨_, rfl⟩
  · have w : whileL wc_taken_apart_0 wb_taken_apart_1 { call := rp F (k + 1), fuel := F } F [some (MV.str cs), some (MV.loc mh.length), some (MV.int 0), some (MV.int 0), some (MV.int 0), none] (mh ++ [MO.lst []]) = _ := w
    rw [gs] at w
    simp only [lim, bodyR, seqS, setS, asgS, retS, retNS, exprS, ifS, passS, par2S, par3S, toS, bnd, op1D, op2D, opND, nilD, consD, varD, conD, boolD, truD, trM, andD, orD, notD, ifD, andV, orV, callD, callM, callKD, methD, sliceD, partD, noPartD, lft, tupG, nameG, consG, nilG, List.map_cons, List.map_nil, List.length_cons, List.length_nil, List.cons_append, List.nil_append, List.append_nil, List.getElem?_cons_zero, List.getElem?_cons_succ, List.set_cons_zero, List.set_cons_succ, List.replicate, Nat.beq_eq, Nat.ble_eq, Nat.blt_eq, Nat.reduceLT, Nat.reduceLeDiff, Int.reduceLT, Int.reduceLE, Int.reduceNeg, Int.reducePow, decide_true, decide_false, Bool.and_self, Bool.and_true, Bool.true_and, Bool.not_true, Bool.not_false, beq_self_eq_true, ite_true, ite_false, if_true, if_false, Nat.reduceAdd, Nat.reduceSub, Nat.zero_add, Bool.false_eq_true, reduceIte, lstM, tupM, whileS, w]
    rw [e]
    exact ⟨_, rfl⟩
theorem r_ist (as : List MV) : rp F (k + 1) 0 as mh = bodyR d_is_text 1 1 ⟨rp F k, F⟩ as mh := rfl
theorem r_wt (as : List MV) : rp F (k + 1) 1 as mh = bodyR d_want_text 1 1 ⟨rp F k, F⟩ as mh := rfl
theorem r_few (as : List MV) : rp F (k + 1) 5 as mh = bodyR d_want_few_words 1 1 ⟨rp F k, F⟩ as mh := rfl
theorem r_tw (as : List MV) : rp F (k + 1) 6 as mh = bodyR d_text_words 1 2 ⟨rp F k, F⟩ as mh := rfl
theorem r_ws (as : List MV) : rp F (k + 1) 7 as mh = bodyR d_wrong_sign 1 1 ⟨rp F k, F⟩ as mh := rfl
theorem wt_spec {cs : List Nat} (hl : cs.length ≤ 20000) : rp F (k + 2) 1 [.str cs] mh = .ok .non mh := by
  have e : rp F (k + 1) 0 [.str cs] mh = .ok (.bl true) mh := by
    rw [r_ist]
    unfold d_is_text
    have h2 : (cs.length : Int) ≤ 20000 := by omega
    have h3 : cs.length ≤ 16777216 := by omega
    simp only [lim, bodyR, seqS, setS, asgS, retS, retNS, exprS, ifS, passS, par2S, par3S, toS, bnd, op1D, op2D, opND, nilD, consD, varD, conD, boolD, truD, trM, andD, orD, notD, ifD, andV, orV, callD, callM, callKD, methD, sliceD, partD, noPartD, lft, tupG, nameG, consG, nilG, List.map_cons, List.map_nil, List.length_cons, List.length_nil, List.cons_append, List.nil_append, List.append_nil, List.getElem?_cons_zero, List.getElem?_cons_succ, List.set_cons_zero, List.set_cons_succ, List.replicate, Nat.beq_eq, Nat.ble_eq, Nat.blt_eq, Nat.reduceLT, Nat.reduceLeDiff, Int.reduceLT, Int.reduceLE, Int.reduceNeg, Int.reducePow, decide_true, decide_false, Bool.and_self, Bool.and_true, Bool.true_and, Bool.not_true, Bool.not_false, beq_self_eq_true, ite_true, ite_false, if_true, if_false, Nat.reduceAdd, Nat.reduceSub, Nat.zero_add, Bool.false_eq_true, reduceIte, isiN, tyOfM, show Vf.kitB 3 3 = some true from rfl, leM, lenN, lenM, g_MOST_TEXT, h2, h3]
  rw [r_wt]
  unfold d_want_text
  simp only [lim, bodyR, seqS, setS, asgS, retS, retNS, exprS, ifS, passS, par2S, par3S, toS, bnd, op1D, op2D, opND, nilD, consD, varD, conD, boolD, truD, trM, andD, orD, notD, ifD, andV, orV, callD, callM, callKD, methD, sliceD, partD, noPartD, lft, tupG, nameG, consG, nilG, List.map_cons, List.map_nil, List.length_cons, List.length_nil, List.cons_append, List.nil_append, List.append_nil, List.getElem?_cons_zero, List.getElem?_cons_succ, List.set_cons_zero, List.set_cons_succ, List.replicate, Nat.beq_eq, Nat.ble_eq, Nat.blt_eq, Nat.reduceLT, Nat.reduceLeDiff, Int.reduceLT, Int.reduceLE, Int.reduceNeg, Int.reducePow, decide_true, decide_false, Bool.and_self, Bool.and_true, Bool.true_and, Bool.not_true, Bool.not_false, beq_self_eq_true, ite_true, ite_false, if_true, if_false, Nat.reduceAdd, Nat.reduceSub, Nat.zero_add, Bool.false_eq_true, reduceIte, e]
theorem few_spec {f : Nat} {xs : List MV} (h : mh[f]? = some (.lst xs)) (hl : xs.length ≤ 3000) : rp F (k + 1) 5 [.loc f] mh = .ok .non mh := by
  rw [r_few]
  unfold d_want_few_words
  have h2 : ¬ ((3000 : Int) < xs.length) := by omega
  simp only [lim, bodyR, seqS, setS, asgS, retS, retNS, exprS, ifS, passS, par2S, par3S, toS, bnd, op1D, op2D, opND, nilD, consD, varD, conD, boolD, truD, trM, andD, orD, notD, ifD, andV, orV, callD, callM, callKD, methD, sliceD, partD, noPartD, lft, tupG, nameG, consG, nilG, List.map_cons, List.map_nil, List.length_cons, List.length_nil, List.cons_append, List.nil_append, List.append_nil, List.getElem?_cons_zero, List.getElem?_cons_succ, List.set_cons_zero, List.set_cons_succ, List.replicate, Nat.beq_eq, Nat.ble_eq, Nat.blt_eq, Nat.reduceLT, Nat.reduceLeDiff, Int.reduceLT, Int.reduceLE, Int.reduceNeg, Int.reducePow, decide_true, decide_false, Bool.and_self, Bool.and_true, Bool.true_and, Bool.not_true, Bool.not_false, beq_self_eq_true, ite_true, ite_false, if_true, if_false, Nat.reduceAdd, Nat.reduceSub, Nat.zero_add, Bool.false_eq_true, reduceIte, lenN, lenM, h, gtM, g_MOST_WORDS, h2]
theorem tw_spec {cs : List Nat} {z : Res} (hl : cs.length ≤ 3000) (hF : cs.length + 20 ≤ F) (h : Tk cs 0 0 [] z) : rp F (k + 3) 6 [.str cs] mh = .ok (.loc mh.length) (mh ++ [.lst (z.1.map enc)]) := by
  rw [r_tw]
  unfold d_text_words
  obtain ⟨v, e⟩ := tk_spec (F := F) (k := k) (mh := mh) (by omega) hF h
  have hb := h.bounds.1
  have e2 := few_spec (F := F) (k := k + 1) (mh := mh ++ [.lst (z.1.map enc)]) (f := mh.length) (xs := z.1.map enc) (by simp) (by simp at hb ⊢; omega)
  simp only [lim, bodyR, seqS, setS, asgS, retS, retNS, exprS, ifS, passS, par2S, par3S, toS, bnd, op1D, op2D, opND, nilD, consD, varD, conD, boolD, truD, trM, andD, orD, notD, ifD, andV, orV, callD, callM, callKD, methD, sliceD, partD, noPartD, lft, tupG, nameG, consG, nilG, List.map_cons, List.map_nil, List.length_cons, List.length_nil, List.cons_append, List.nil_append, List.append_nil, List.getElem?_cons_zero, List.getElem?_cons_succ, List.set_cons_zero, List.set_cons_succ, List.replicate, Nat.beq_eq, Nat.ble_eq, Nat.blt_eq, Nat.reduceLT, Nat.reduceLeDiff, Int.reduceLT, Int.reduceLE, Int.reduceNeg, Int.reducePow, decide_true, decide_false, Bool.and_self, Bool.and_true, Bool.true_and, Bool.not_true, Bool.not_false, beq_self_eq_true, ite_true, ite_false, if_true, if_false, Nat.reduceAdd, Nat.reduceSub, Nat.zero_add, Bool.false_eq_true, reduceIte, wt_spec (show cs.length ≤ 20000 by omega), e, ixM, show ∀ a b c, getM [a, b, c] 0 = some a from fun _ _ _ => rfl, e2]
theorem ws_spec {cs : List Nat} {z : Res} (hl : cs.length ≤ 3000) (hF : cs.length + 20 ≤ F) (h : Tk cs 0 0 [] z) : rp F (k + 3) 7 [.str cs] mh = .ok (encO z.2) (mh ++ [.lst (z.1.map enc)]) := by
  rw [r_ws]
  unfold d_wrong_sign
  obtain ⟨v, e⟩ := tk_spec (F := F) (k := k) (mh := mh) (by omega) hF h
  simp only [lim, bodyR, seqS, setS, asgS, retS, retNS, exprS, ifS, passS, par2S, par3S, toS, bnd, op1D, op2D, opND, nilD, consD, varD, conD, boolD, truD, trM, andD, orD, notD, ifD, andV, orV, callD, callM, callKD, methD, sliceD, partD, noPartD, lft, tupG, nameG, consG, nilG, List.map_cons, List.map_nil, List.length_cons, List.length_nil, List.cons_append, List.nil_append, List.append_nil, List.getElem?_cons_zero, List.getElem?_cons_succ, List.set_cons_zero, List.set_cons_succ, List.replicate, Nat.beq_eq, Nat.ble_eq, Nat.blt_eq, Nat.reduceLT, Nat.reduceLeDiff, Int.reduceLT, Int.reduceLE, Int.reduceNeg, Int.reducePow, decide_true, decide_false, Bool.and_self, Bool.and_true, Bool.true_and, Bool.not_true, Bool.not_false, beq_self_eq_true, ite_true, ite_false, if_true, if_false, Nat.reduceAdd, Nat.reduceSub, Nat.zero_add, Bool.false_eq_true, reduceIte, wt_spec (show cs.length ≤ 20000 by omega), e, ixM, show ∀ a b c, getM [a, b, c] 1 = some b from fun _ _ _ => rfl]
end K11
end L2
end
section
/-! K11H: the law's own taking. -/
namespace L2
namespace K11
open PySem PySem.Spec PyProof.Rows L2.Vf
variable {F k : Nat} {mh : MH}
abbrev ienv (cs : List Nat) (f l : Nat) (told left : List Nat) (at_ : Nat) (s : Option MV) : Env' := [some (.str cs), some (.loc f), some (.int l), some (.str told), some (.str left), some (.int at_), s]
theorem in_loop {cs told left : List Nat} {f l : Nat} (hF : 20 ≤ F) (h10 : 10 ∉ left) (h35 : 35 ∉ left) (hl : left.length ≤ 16777216) : ∀ (m : Nat) (lf : List Nat) (at_ n : Nat) (acc : List Wd) (mh : MH) (s : Option MV), lf.length ≤ m → left.drop at_ = lf → at_ ≤ left.length → lf.length < n → mh[f]? = some (.lst (acc.map enc)) → acc.length + lf.length < 16777216 →
    ∃ z : Res, (∀ e ∈ z.1, e ∈ acc ∨ (e.2.1 = l ∧ (left.drop e.2.2).take e.1.length = e.1)) ∧ z.1.length ≤ acc.length + lf.length ∧
      ((z.2 = none ∧ (∀ tl y, Brk tl → (∀ c, Tk tl l c z.1 y) → Tk (lf ++ tl) l at_ acc y) ∧ ∃ at' s', whileL wc__law_taken_0 wb__law_taken_1 ⟨rp F (k + 1), F⟩ n (ienv cs f l told left at_ s) mh = .nx (ienv cs f l told left at' s') (mh.set f (.lst (z.1.map enc)))) ∨
      ∃ p, z.2 = some p ∧ (∀ tl, Brk tl → Tk (lf ++ tl) l at_ acc z) ∧ whileL wc__law_taken_0 wb__law_taken_1 ⟨rp F (k + 1), F⟩ n (ienv cs f l told left at_ s) mh = .rt (.tup [.loc f, encP p]) (mh.set f (.lst (z.1.map enc))))
  | m, [], at_, n, acc, mh, s, hm, hd, hat, hn, hf, hA => by
    obtain ⟨n, rfl⟩ : ∃ m, n = m + 1 := ⟨n - 1, by simp at hn; omega⟩
    have hlen : ¬ ((at_ : Int) < left.length) := by
      have := congrArg List.length hd
      simp at this
      omega
    refine ⟨(acc, none), fun e he => .inl he, by simp, .inl ⟨rfl, fun tl y _ h => h _, at_, s, ?_⟩⟩
    rw [set_same hf]
    refine whileL_false ?_
    unfold wc__law_taken_0
    simp only [lim, bodyR, seqS, setS, asgS, retS, retNS, exprS, ifS, passS, par2S, par3S, toS, bnd, op1D, op2D, opND, nilD, consD, varD, conD, boolD, truD, trM, andD, orD, notD, ifD, andV, orV, callD, callM, callKD, methD, sliceD, partD, noPartD, lft, tupG, nameG, consG, nilG, List.map_cons, List.map_nil, List.length_cons, List.length_nil, List.cons_append, List.nil_append, List.append_nil, List.getElem?_cons_zero, List.getElem?_cons_succ, List.set_cons_zero, List.set_cons_succ, List.replicate, Nat.beq_eq, Nat.ble_eq, Nat.blt_eq, Nat.reduceLT, Nat.reduceLeDiff, Int.reduceLT, Int.reduceLE, Int.reduceNeg, Int.reducePow, decide_true, decide_false, Bool.and_self, Bool.and_true, Bool.true_and, Bool.not_true, Bool.not_false, beq_self_eq_true, ite_true, ite_false, if_true, if_false, Nat.reduceAdd, Nat.reduceSub, Nat.zero_add, Bool.false_eq_true, reduceIte, ltM, lenN, lenM, hl, hlen]
  | 0, x :: r, at_, n, acc, mh, s, hm, hd, hat, hn, hf, hA => by simp at hm
  | m + 1, x :: r, at_, n, acc, mh, s, hm, hd, hat, hn, hf, hA => by
    obtain ⟨n, rfl⟩ : ∃ m, n = m + 1 := ⟨n - 1, by simp at hn; omega⟩
    have hlt : at_ + (r.length + 1) = left.length := by
      have := congrArg List.length hd
      simp at this
      omega
    have hlt' : ((at_ : Int) < left.length) := by omega
    have hg0 : left[at_]? = some x := by
      have := get_drop (i := 0) hd
      simpa using this
    have hg : getC left (at_ : Int) = some x := by rw [getC_nat]; exact hg0
    have hx : x ∈ left := List.mem_of_getElem? hg0
    have x1 : x ≠ 10 := fun e => h10 (e ▸ hx)
    have x3 : x ≠ 35 := fun e => h35 (e ▸ hx)
    have hcond : wc__law_taken_0 ⟨rp F (k + 1), F⟩ (ienv cs f l told left at_ s) mh = .ok true mh := by
      unfold wc__law_taken_0
      simp only [lim, bodyR, seqS, setS, asgS, retS, retNS, exprS, ifS, passS, par2S, par3S, toS, bnd, op1D, op2D, opND, nilD, consD, varD, conD, boolD, truD, trM, andD, orD, notD, ifD, andV, orV, callD, callM, callKD, methD, sliceD, partD, noPartD, lft, tupG, nameG, consG, nilG, List.map_cons, List.map_nil, List.length_cons, List.length_nil, List.cons_append, List.nil_append, List.append_nil, List.getElem?_cons_zero, List.getElem?_cons_succ, List.set_cons_zero, List.set_cons_succ, List.replicate, Nat.beq_eq, Nat.ble_eq, Nat.blt_eq, Nat.reduceLT, Nat.reduceLeDiff, Int.reduceLT, Int.reduceLE, Int.reduceNeg, Int.reducePow, decide_true, decide_false, Bool.and_self, Bool.and_true, Bool.true_and, Bool.not_true, Bool.not_false, beq_self_eq_true, ite_true, ite_false, if_true, if_false, Nat.reduceAdd, Nat.reduceSub, Nat.zero_add, Bool.false_eq_true, reduceIte, ltM, lenN, lenM, hl, hlt']
    have hd1 : left.drop (at_ + 1) = r := by
      have := congrArg (List.drop 1) hd
      rw [List.drop_drop] at this
      simpa using this
    by_cases x2 : x = 32
    · subst x2
      have st : whileL wc__law_taken_0 wb__law_taken_1 ⟨rp F (k + 1), F⟩ (n + 1) (ienv cs f l told left at_ s) mh = whileL wc__law_taken_0 wb__law_taken_1 ⟨rp F (k + 1), F⟩ n (ienv cs f l told left (at_ + 1) (some (.int 1))) mh := by
        refine whileL_true hcond ?_
        unfold wb__law_taken_1
        simp only [lim, bodyR, seqS, setS, asgS, retS, retNS, exprS, ifS, passS, par2S, par3S, toS, bnd, op1D, op2D, opND, nilD, consD, varD, conD, boolD, truD, trM, andD, orD, notD, ifD, andV, orV, callD, callM, callKD, methD, sliceD, partD, noPartD, lft, tupG, nameG, consG, nilG, List.map_cons, List.map_nil, List.length_cons, List.length_nil, List.cons_append, List.nil_append, List.append_nil, List.getElem?_cons_zero, List.getElem?_cons_succ, List.set_cons_zero, List.set_cons_succ, List.replicate, Nat.beq_eq, Nat.ble_eq, Nat.blt_eq, Nat.reduceLT, Nat.reduceLeDiff, Int.reduceLT, Int.reduceLE, Int.reduceNeg, Int.reducePow, decide_true, decide_false, Bool.and_self, Bool.and_true, Bool.true_and, Bool.not_true, Bool.not_false, beq_self_eq_true, ite_true, ite_false, if_true, if_false, Nat.reduceAdd, Nat.reduceSub, Nat.zero_add, Bool.false_eq_true, reduceIte, ixM, hg, hl, eqM, eqB, show beqL [32] [32] = true from rfl, neM, addM, Int.reduceEq]
        rfl
      rw [st]
      obtain ⟨z, z1, z2, z3⟩ := in_loop (cs := cs) (told := told) (f := f) (l := l) hF h10 h35 hl m r (at_ + 1) n acc mh (some (.int 1)) (by simp at hm; omega) hd1 (by omega) (by simp at hn; omega) hf (by simp at hA ⊢; omega)
      refine ⟨z, z1, by simp; omega, ?_⟩
      rcases z3 with ⟨a, b, c⟩ | ⟨p, a, b, c⟩
      · exact .inl ⟨a, fun tl y h1 h2 => .sp (b tl y h1 h2), c⟩
      · exact .inr ⟨p, a, fun tl h1 => .sp (b tl h1), c⟩
    · have q2 : beqL [x] [32] = false := by rw [beqL_iff]; simp [x2]
      have hcut : cutG left (some (at_ : Int)) none = x :: r := by rw [cutG_from, hd]
      have hw := len_spec (F := F) (k := k) (mh := mh) (c := x) (r := r) (by simp; omega) hF
      have hz := sz_le x r
      by_cases hs : sz (x :: r) = 0
      · rw [hs] at hw
        refine ⟨(acc, some (l, at_)), fun e he => .inl he, by simp, .inr ⟨(l, at_), rfl, fun tl ht => ?_, ?_⟩⟩
        · have e := sz_brk ht x r
          exact .wrong x1 x2 x3 (e.trans hs)
        · rw [set_same hf]
          refine whileL_rt hcond ?_
          unfold wb__law_taken_1
          simp only [lim, bodyR, seqS, setS, asgS, retS, retNS, exprS, ifS, passS, par2S, par3S, toS, bnd, op1D, op2D, opND, nilD, consD, varD, conD, boolD, truD, trM, andD, orD, notD, ifD, andV, orV, callD, callM, callKD, methD, sliceD, partD, noPartD, lft, tupG, nameG, consG, nilG, List.map_cons, List.map_nil, List.length_cons, List.length_nil, List.cons_append, List.nil_append, List.append_nil, List.getElem?_cons_zero, List.getElem?_cons_succ, List.set_cons_zero, List.set_cons_succ, List.replicate, Nat.beq_eq, Nat.ble_eq, Nat.blt_eq, Nat.reduceLT, Nat.reduceLeDiff, Int.reduceLT, Int.reduceLE, Int.reduceNeg, Int.reducePow, decide_true, decide_false, Bool.and_self, Bool.and_true, Bool.true_and, Bool.not_true, Bool.not_false, beq_self_eq_true, ite_true, ite_false, if_true, if_false, Nat.reduceAdd, Nat.reduceSub, Nat.zero_add, Bool.false_eq_true, reduceIte, ixM, hg, hl, eqM, eqB, q2, sliceM, hcut, hw, tupM]
          rfl
      · have hs0 : ¬ ((sz (x :: r) : Int) = 0) := by omega
        have hcut2 : cutG left (some (at_ : Int)) (some ((at_ : Int) + (sz (x :: r) : Int))) = (x :: r).take (sz (x :: r)) := by
          have := cutG_nat left at_ (at_ + sz (x :: r))
          rw [hd, Nat.add_sub_cancel_left] at this
          exact this
        have hd2 : left.drop (at_ + sz (x :: r)) = (x :: r).drop (sz (x :: r)) := by
          have := congrArg (List.drop (sz (x :: r))) hd
          rw [List.drop_drop] at this
          exact this
        have hlf : f < mh.length := (List.getElem?_eq_some_iff.mp hf).1
        have hA2 : (acc.map enc).length < 16777216 := by simp at hA ⊢; omega
        obtain ⟨z, z1, z2, z3⟩ := in_loop (cs := cs) (told := told) (f := f) (l := l) hF h10 h35 hl m _ (at_ + sz (x :: r)) n (acc ++ [((x :: r).take (sz (x :: r)), l, at_)]) (mh.set f (.lst ((acc ++ [((x :: r).take (sz (x :: r)), l, at_)]).map enc))) (some (.int (sz (x :: r)))) (by simp at hm ⊢; omega) hd2 (by omega) (by simp at hn ⊢; omega) (List.getElem?_set_self hlf) (by simp at hA ⊢; omega)
        rw [List.set_set] at z3
        have st : whileL wc__law_taken_0 wb__law_taken_1 ⟨rp F (k + 1), F⟩ (n + 1) (ienv cs f l told left at_ s) mh = whileL wc__law_taken_0 wb__law_taken_1 ⟨rp F (k + 1), F⟩ n (ienv cs f l told left (at_ + sz (x :: r)) (some (.int (sz (x :: r))))) (mh.set f (.lst ((acc ++ [((x :: r).take (sz (x :: r)), l, at_)]).map enc))) := by
          refine whileL_true hcond ?_
          unfold wb__law_taken_1
          simp only [lim, bodyR, seqS, setS, asgS, retS, retNS, exprS, ifS, passS, par2S, par3S, toS, bnd, op1D, op2D, opND, nilD, consD, varD, conD, boolD, truD, trM, andD, orD, notD, ifD, andV, orV, callD, callM, callKD, methD, sliceD, partD, noPartD, lft, tupG, nameG, consG, nilG, List.map_cons, List.map_nil, List.length_cons, List.length_nil, List.cons_append, List.nil_append, List.append_nil, List.getElem?_cons_zero, List.getElem?_cons_succ, List.set_cons_zero, List.set_cons_succ, List.replicate, Nat.beq_eq, Nat.ble_eq, Nat.blt_eq, Nat.reduceLT, Nat.reduceLeDiff, Int.reduceLT, Int.reduceLE, Int.reduceNeg, Int.reducePow, decide_true, decide_false, Bool.and_self, Bool.and_true, Bool.true_and, Bool.not_true, Bool.not_false, beq_self_eq_true, ite_true, ite_false, if_true, if_false, Nat.reduceAdd, Nat.reduceSub, Nat.zero_add, Bool.false_eq_true, reduceIte, ixM, hg, hl, eqM, eqB, q2, sliceM, hcut, hw, hs0, neM, addM, hcut2, tupM, isLstM, hf, appendM, hA2, List.map_append]
          rfl
        rw [st]
        have step : ∀ (tl : List Nat) (y : Res), Brk tl → Tk ((x :: r).drop (sz (x :: r)) ++ tl) l (at_ + sz (x :: r)) (acc ++ [((x :: r).take (sz (x :: r)), l, at_)]) y → Tk (x :: r ++ tl) l at_ acc y := by
          intro tl y ht h
          have e : sz (x :: (r.append tl)) = sz (x :: r) := sz_brk ht x r
          refine .word x1 x2 x3 (by rw [e]; exact hs) ?_
          rw [e, show x :: (r.append tl) = (x :: r) ++ tl from rfl, List.drop_append_of_le_length (by simp; omega), List.take_append_of_le_length (by simp; omega)]
          exact h
        refine ⟨z, fun e he => ?_, by simp at z2 ⊢; omega, ?_⟩
        · rcases z1 e he with h | h
          · rcases List.mem_append.mp h with h | h
            · exact .inl h
            · cases List.mem_singleton.mp h
              refine .inr ⟨rfl, ?_⟩
              dsimp only
              rw [hd, List.length_take, Nat.min_eq_left (by simp; omega)]
          · exact .inr h
        · rcases z3 with ⟨a, b, c⟩ | ⟨p, a, b, c⟩
          · exact .inl ⟨a, fun tl y h1 h2 => step tl y h1 (b tl y h1 h2), c⟩
          · exact .inr ⟨p, a, fun tl h1 => step tl z h1 (b tl h1), c⟩
end K11
end L2
end
section
/-! K11I: the law's own taking, line by line. -/
namespace L2
namespace K11
open PySem PySem.Spec PyProof.Rows L2.Vf
variable {F k : Nat} {mh : MH}
abbrev tgL : DG := tupG 2 (consG (nameG 2) (consG (nameG 3) nilG))
theorem out_loop {cs : List Nat} {f q : Nat} {pl : List (List Nat)} (hfq : q ≠ f) (hp10 : ∀ p ∈ pl, 10 ∉ p) : ∀ (ps : List (List Nat)) (i n : Nat) (acc : List Wd) (mh : MH) (a b c d e : Option MV), pl.drop i = ps → ps.length < n → (jn 10 ps).length + 20 ≤ F → mh[f]? = some (.lst (acc.map enc)) → mh[q]? = some (.lst (pl.map .str)) → acc.length + (jn 10 ps).length < 16777000 →
    ∃ (z : Res) (mh' : MH), Fr f mh mh' ∧ mh'[f]? = some (.lst (z.1.map enc)) ∧ (ps ≠ [] → Tk (jn 10 ps) i 0 acc z) ∧ (ps = [] → z = (acc, none)) ∧ (∀ w ∈ z.1, w ∈ acc ∨ ∃ told, pl[w.2.1]? = some told ∧ (told.drop w.2.2).take w.1.length = w.1) ∧
      ((z.2 = none ∧ ∃ a' b' c' d' e', forL (nxtE (nxtL q)) tgL fb__law_taken_2 ⟨rp F (k + 1), F⟩ n i [some (.str cs), some (.loc f), a, b, c, d, e] mh = .nx [some (.str cs), some (.loc f), a', b', c', d', e'] mh') ∨
        ∃ p, z.2 = some p ∧ forL (nxtE (nxtL q)) tgL fb__law_taken_2 ⟨rp F (k + 1), F⟩ n i [some (.str cs), some (.loc f), a, b, c, d, e] mh = .rt (.tup [.loc f, encP p]) mh')
  | [], i, n, acc, mh, a, b, c, d, e, hd, hn, hF, hf, hq, hA => by
    obtain ⟨n, rfl⟩ : ∃ m, n = m + 1 := ⟨n - 1, by simp at hn; omega⟩
    have hi : pl[i]? = none := by
      have := congrArg List.length hd
      simp at this
      exact List.getElem?_eq_none (by omega)
    refine ⟨(acc, none), mh, .refl, hf, fun h => absurd rfl h, fun _ => rfl, fun w hw => .inl hw, .inl ⟨rfl, a, b, c, d, e, forL_end ?_⟩⟩
    unfold nxtE nxtL
    simp only [hq, List.getElem?_map, hi, Option.map_none]
  | p :: ps, i, n, acc, mh, a, b, c, d, e, hd, hn, hF, hf, hq, hA => by
    obtain ⟨n, rfl⟩ : ∃ m, n = m + 1 := ⟨n - 1, by simp at hn; omega⟩
    have hi : pl[i]? = some p := by
      have : (pl.drop i)[0]? = some p := by rw [hd]; rfl
      rw [List.getElem?_drop] at this
      exact this
    have hd1 : pl.drop (i + 1) = ps := by
      have := congrArg (List.drop 1) hd
      rw [List.drop_drop] at this
      simpa using this
    have h10 : 10 ∉ p := hp10 p (List.mem_of_getElem? hi)
    have hnx : nxtE (nxtL q) i mh = some (some (.tup [.int i, .str p])) := by
      unfold nxtE nxtL
      simp only [hq, List.getElem?_map, hi, Option.map_some]
    have hlf : f < mh.length := (List.getElem?_eq_some_iff.mp hf).1
    have hlq : q < mh.length := (List.getElem?_eq_some_iff.mp hq).1
    -- the rest of the text behind this line
    obtain ⟨rst, hr1, hr2⟩ : ∃ rst, jn 10 (p :: ps) = p ++ rst ∧ ((ps = [] ∧ rst = []) ∨ (ps ≠ [] ∧ rst = 10 :: jn 10 ps)) := by
      cases ps with
      | nil => exact ⟨[], by simp [jn], .inl ⟨rfl, rfl⟩⟩
      | cons p2 r2 => exact ⟨_, rfl, .inr ⟨by simp, rfl⟩⟩
    have hpl : p.length + rst.length + acc.length < 16777000 := by rw [hr1, List.length_append] at hA; omega
    rw [hr1, List.length_append] at hF
    obtain ⟨left, ra, t, e1, e2, h35, ht⟩ := parts_head 35 p
    have hpt : p.length = left.length + t.length := by rw [e2, List.length_append]
    have h10l : 10 ∉ left := fun h => h10 (e2 ▸ List.mem_append_left _ h)
    have h10t : 10 ∉ t := fun h => h10 (e2 ▸ List.mem_append_right _ h)
    have hgL : getM ((parts 35 p).map MV.str) 0 = some (.str left) := by rw [e1]; rfl
    have hf1 : (mh ++ [MO.lst ((parts 35 p).map .str)])[f]? = some (.lst (acc.map enc)) := by rw [List.getElem?_append_left hlf]; exact hf
    have hq1 : (mh ++ [MO.lst ((parts 35 p).map .str)])[q]? = some (.lst (pl.map .str)) := by rw [List.getElem?_append_left hlq]; exact hq
    obtain ⟨z, z1, z2, z3⟩ := in_loop (F := F) (k := k) (cs := cs) (told := p) (f := f) (l := i) (by omega) h10l h35 (by omega) left.length left 0 F acc (mh ++ [MO.lst ((parts 35 p).map .str)]) e (Nat.le_refl _) rfl (Nat.zero_le _) (by omega) hf1 (by omega)
    have brk : Brk (t ++ rst) := by
      rcases ht with rfl | ⟨t', rfl⟩
      · rcases hr2 with ⟨_, rfl⟩ | ⟨_, rfl⟩
        · exact .inl rfl
        · exact .inr ⟨_, _, rfl, .inl rfl⟩
      · exact .inr ⟨_, _, rfl, .inr rfl⟩
    have whole : jn 10 (p :: ps) = left ++ (t ++ rst) := by rw [hr1, e2, List.append_assoc]
    have tail : ∀ y, (ps ≠ [] → Tk (jn 10 ps) (i + 1) 0 z.1 y) → (ps = [] → y = (z.1, none)) → ∀ c, Tk (t ++ rst) i c z.1 y := by
      intro y y1 y2 c
      have base : ∀ c, Tk rst i c z.1 y := by
        intro c
        rcases hr2 with ⟨h, rfl⟩ | ⟨h, rfl⟩
        · rw [y2 h]; exact .nil
        · exact .nl (y1 h)
      rcases ht with rfl | ⟨t', rfl⟩
      · exact base c
      · refine .rem (fun h => h10t (List.mem_cons_of_mem _ h)) ?_ (base _)
        rcases hr2 with ⟨_, rfl⟩ | ⟨_, rfl⟩
        · exact .inl rfl
        · exact .inr ⟨_, rfl⟩
    have good : ∀ w ∈ z.1, w ∈ acc ∨ ∃ told, pl[w.2.1]? = some told ∧ (told.drop w.2.2).take w.1.length = w.1 := by
      intro w hw
      rcases z1 w hw with h | ⟨h1, h2⟩
      · exact .inl h
      · by_cases hw0 : w.1 = []
        · refine .inr ⟨p, by rw [h1]; exact hi, ?_⟩
          rw [hw0]; rfl
        · refine .inr ⟨p, by rw [h1]; exact hi, ?_⟩
          rw [e2]
          have hb : w.2.2 ≤ left.length := by
            apply Classical.byContradiction
            intro hh
            rw [List.drop_of_length_le (by omega)] at h2
            exact hw0 (by rw [← h2]; simp)
          rw [List.drop_append_of_le_length hb]
          have hl2 := congrArg List.length h2
          rw [List.length_take] at hl2
          rw [List.take_append_of_le_length (by omega)]
          exact h2
    have body : ∀ R : RsS, whileL wc__law_taken_0 wb__law_taken_1 ⟨rp F (k + 1), F⟩ F (ienv cs f i p left 0 e) (mh ++ [MO.lst ((parts 35 p).map .str)]) = R → (match R with | .nx _ _ => True | .rt _ _ => True | _ => False) →
        fb__law_taken_2 ⟨rp F (k + 1), F⟩ [some (.str cs), some (.loc f), some (.int i), some (.str p), c, d, e] mh = R := by
      intro R h1 h2
      unfold fb__law_taken_2
      have hp2 : p.length + 2 ≤ 16777216 := by omega
      have hp2' : p.length ≤ 16777214 := by omega
      have h1 : whileL wc__law_taken_0 wb__law_taken_1 ⟨rp F (k + 1), F⟩ F [some (.str cs), some (.loc f), some (.int i), some (.str p), some (.str left), some (.int 0), e] (mh ++ [MO.lst ((parts 35 p).map .str)]) = R := h1
      simp only [lim, bodyR, seqS, setS, asgS, retS, retNS, exprS, ifS, passS, par2S, par3S, toS, bnd, op1D, op2D, opND, nilD, consD, varD, conD, boolD, truD, trM, andD, orD, notD, ifD, andV, orV, callD, callM, callKD, methD, sliceD, partD, noPartD, lft, tupG, nameG, consG, nilG, List.map_cons, List.map_nil, List.length_cons, List.length_nil, List.cons_append, List.nil_append, List.append_nil, List.getElem?_cons_zero, List.getElem?_cons_succ, List.set_cons_zero, List.set_cons_succ, List.replicate, Nat.beq_eq, Nat.ble_eq, Nat.blt_eq, Nat.reduceLT, Nat.reduceLeDiff, Int.reduceLT, Int.reduceLE, Int.reduceNeg, Int.reducePow, decide_true, decide_false, Bool.and_self, Bool.and_true, Bool.true_and, Bool.not_true, Bool.not_false, beq_self_eq_true, ite_true, ite_false, if_true, if_false, Nat.reduceAdd, Nat.reduceSub, Nat.zero_add, Bool.false_eq_true, reduceIte, isStrM, splitM, List.isEmpty_cons, hp2', strL_parts, ixM, List.getElem?_concat_length, hgL, whileS, h1]
      cases R <;> first | rfl | exact h2.elim
    have fr1 : ∀ x, Fr f mh ((mh ++ [MO.lst ((parts 35 p).map .str)]).set f x) := fun x => ⟨by simp, fun j hj hne => by rw [List.getElem?_set_ne (Ne.symm hne), List.getElem?_append_left hj]⟩
    have hset : ∀ x, ((mh ++ [MO.lst ((parts 35 p).map .str)]).set f x)[f]? = some x := fun x => List.getElem?_set_self (by simp; omega)
    rcases z3 with ⟨za, zb, at', s', zc⟩ | ⟨pp, za, zb, zc⟩
    · obtain ⟨y, mh', y1, y2, y3, y4, y5, y6⟩ := out_loop (cs := cs) (f := f) (q := q) hfq hp10 ps (i + 1) n z.1 ((mh ++ [MO.lst ((parts 35 p).map .str)]).set f (.lst (z.1.map enc))) (some (.int i)) (some (.str p)) (some (.str left)) (some (.int at')) s' hd1 (by simp at hn; omega)
        (by rcases hr2 with ⟨rfl, _⟩ | ⟨_, h⟩
            · show 0 + 20 ≤ F
              omega
            · rw [h] at hF; simp at hF; omega) (hset _) (by rw [List.getElem?_set_ne (Ne.symm hfq)]; exact hq1)
        (by rcases hr2 with ⟨rfl, _⟩ | ⟨_, h⟩
            · show z.1.length + 0 < _
              omega
            · rw [h] at hpl; simp at hpl; omega)
      have st : forL (nxtE (nxtL q)) tgL fb__law_taken_2 ⟨rp F (k + 1), F⟩ (n + 1) i [some (.str cs), some (.loc f), a, b, c, d, e] mh = forL (nxtE (nxtL q)) tgL fb__law_taken_2 ⟨rp F (k + 1), F⟩ n (i + 1) [some (.str cs), some (.loc f), some (.int i), some (.str p), some (.str left), some (.int at'), s'] ((mh ++ [MO.lst ((parts 35 p).map .str)]).set f (.lst (z.1.map enc))) := by
        refine forL_next hnx (env2 := [some (.str cs), some (.loc f), some (.int i), some (.str p), c, d, e]) (mh2 := mh) ?_ (body _ zc trivial)
        unfold tgL
        simp only [lim, bodyR, seqS, setS, asgS, retS, retNS, exprS, ifS, passS, par2S, par3S, toS, bnd, op1D, op2D, opND, nilD, consD, varD, conD, boolD, truD, trM, andD, orD, notD, ifD, andV, orV, callD, callM, callKD, methD, sliceD, partD, noPartD, lft, tupG, nameG, consG, nilG, List.map_cons, List.map_nil, List.length_cons, List.length_nil, List.cons_append, List.nil_append, List.append_nil, List.getElem?_cons_zero, List.getElem?_cons_succ, List.set_cons_zero, List.set_cons_succ, List.replicate, Nat.beq_eq, Nat.ble_eq, Nat.blt_eq, Nat.reduceLT, Nat.reduceLeDiff, Int.reduceLT, Int.reduceLE, Int.reduceNeg, Int.reducePow, decide_true, decide_false, Bool.and_self, Bool.and_true, Bool.true_and, Bool.not_true, Bool.not_false, beq_self_eq_true, ite_true, ite_false, if_true, if_false, Nat.reduceAdd, Nat.reduceSub, Nat.zero_add, Bool.false_eq_true, reduceIte]
      rw [st]
      refine ⟨y, mh', (fr1 _).trans y1, y2, fun _ => ?_, fun h => (by cases h), fun w hw => ?_, y6⟩
      · rw [whole]
        exact zb _ _ brk (tail y y3 y4)
      · rcases y5 w hw with h | h
        · exact good w h
        · exact .inr h
    · have st : forL (nxtE (nxtL q)) tgL fb__law_taken_2 ⟨rp F (k + 1), F⟩ (n + 1) i [some (.str cs), some (.loc f), a, b, c, d, e] mh = .rt (.tup [.loc f, encP pp]) ((mh ++ [MO.lst ((parts 35 p).map .str)]).set f (.lst (z.1.map enc))) := by
        refine forL_rt hnx (env2 := [some (.str cs), some (.loc f), some (.int i), some (.str p), c, d, e]) (mh2 := mh) ?_ (body _ zc trivial)
        unfold tgL
        simp only [lim, bodyR, seqS, setS, asgS, retS, retNS, exprS, ifS, passS, par2S, par3S, toS, bnd, op1D, op2D, opND, nilD, consD, varD, conD, boolD, truD, trM, andD, orD, notD, ifD, andV, orV, callD, callM, callKD, methD, sliceD, partD, noPartD, lft, tupG, nameG, consG, nilG, List.map_cons, List.map_nil, List.length_cons, List.length_nil, List.cons_append, List.nil_append, List.append_nil, List.getElem?_cons_zero, List.getElem?_cons_succ, List.set_cons_zero, List.set_cons_succ, List.replicate, Nat.beq_eq, Nat.ble_eq, Nat.blt_eq, Nat.reduceLT, Nat.reduceLeDiff, Int.reduceLT, Int.reduceLE, Int.reduceNeg, Int.reducePow, decide_true, decide_false, Bool.and_self, Bool.and_true, Bool.true_and, Bool.not_true, Bool.not_false, beq_self_eq_true, ite_true, ite_false, if_true, if_false, Nat.reduceAdd, Nat.reduceSub, Nat.zero_add, Bool.false_eq_true, reduceIte]
      rw [st]
      refine ⟨z, _, fr1 _, hset _, fun _ => ?_, fun h => (by cases h), good, .inr ⟨pp, za, rfl⟩⟩
      rw [whole]
      exact zb _ brk
theorem r_lt (as : List MV) : rp F (k + 1) 12 as mh = bodyR d__law_taken 1 7 ⟨rp F k, F⟩ as mh := rfl
theorem lt_spec {cs : List Nat} (hl : cs.length < 16776000) (hF : cs.length + 30 ≤ F) : ∃ (z : Res) (mh' : MH), rp F (k + 2) 12 [.str cs] mh = .ok (.tup [.loc mh.length, encO z.2]) mh' ∧ Tk cs 0 0 [] z ∧ Fr mh.length mh mh' ∧ mh'[mh.length]? = some (.lst (z.1.map enc)) ∧ mh.length < mh'.length ∧
    ∀ w ∈ z.1, ∃ told, (parts 10 cs)[w.2.1]? = some told ∧ (told.drop w.2.2).take w.1.length = w.1 := by
  rw [r_lt]
  unfold d__law_taken
  have hl2 : cs.length ≤ 16777214 := by omega
  have hpl := parts_len 10 cs
  obtain ⟨z, mh', y1, y2, y3, y4, y5, y6⟩ := out_loop (F := F) (k := k) (cs := cs) (f := mh.length) (q := mh.length + 1) (pl := parts 10 cs) (by omega) (parts_free 10 cs) (parts 10 cs) 0 F [] (mh ++ [.lst []] ++ [.lst ((parts 10 cs).map .str)]) none none none none none rfl (by omega) (by rw [parts_jn]; omega) (by simp) (by rw [List.getElem?_append_right (by simp)]; simp) (by rw [parts_jn]; simp; omega)
  have fr : Fr mh.length mh mh' := by
    refine ⟨by have := y1.le; simp at this; omega, fun j hj hne => ?_⟩
    rw [y1.keep j (by simp; omega) hne, List.append_assoc, List.getElem?_append_left hj]
  have hlt : mh.length < mh'.length := by have := y1.le; simp at this; omega
  have tk := y3 (parts_pos 10 cs)
  rw [parts_jn] at tk
  have gd : ∀ w ∈ z.1, ∃ told, (parts 10 cs)[w.2.1]? = some told ∧ (told.drop w.2.2).take w.1.length = w.1 := by
    intro w hw
    rcases y5 w hw with h | h
    · cases h
    · exact h
  have hsz : (mh ++ [MO.lst ([] : List MV)]).length = mh.length + 1 := by simp
  have hg : (mh ++ [MO.lst ([] : List MV)] ++ [MO.lst ((parts 10 cs).map MV.str)])[mh.length + 1]? = some (.lst ((parts 10 cs).map .str)) := by
    rw [List.getElem?_append_right (by simp)]; simp
  rcases y6 with ⟨e, a', b', c', d', e', w⟩ | ⟨p, e, w⟩
  · refine ⟨z, mh', ?_, tk, fr, y2, hlt, gd⟩
    unfold tgL at w
    simp only [lim, bodyR, seqS, setS, asgS, retS, retNS, exprS, ifS, passS, par2S, par3S, toS, bnd, op1D, op2D, opND, nilD, consD, varD, conD, boolD, truD, trM, andD, orD, notD, ifD, andV, orV, callD, callM, callKD, methD, sliceD, partD, noPartD, lft, tupG, nameG, consG, nilG, List.map_cons, List.map_nil, List.length_cons, List.length_nil, List.cons_append, List.nil_append, List.append_nil, List.getElem?_cons_zero, List.getElem?_cons_succ, List.set_cons_zero, List.set_cons_succ, List.replicate, Nat.beq_eq, Nat.ble_eq, Nat.blt_eq, Nat.reduceLT, Nat.reduceLeDiff, Int.reduceLT, Int.reduceLE, Int.reduceNeg, Int.reducePow, decide_true, decide_false, Bool.and_self, Bool.and_true, Bool.true_and, Bool.not_true, Bool.not_false, beq_self_eq_true, ite_true, ite_false, if_true, if_false, Nat.reduceAdd, Nat.reduceSub, Nat.zero_add, Bool.false_eq_true, reduceIte, lstM, isStrM, splitM, List.isEmpty_cons, hl2, strL_parts, forS, enumI, hsz, hg, w, tupM]
    rw [e]; rfl
  · refine ⟨z, mh', ?_, tk, fr, y2, hlt, gd⟩
    unfold tgL at w
    simp only [lim, bodyR, seqS, setS, asgS, retS, retNS, exprS, ifS, passS, par2S, par3S, toS, bnd, op1D, op2D, opND, nilD, consD, varD, conD, boolD, truD, trM, andD, orD, notD, ifD, andV, orV, callD, callM, callKD, methD, sliceD, partD, noPartD, lft, tupG, nameG, consG, nilG, List.map_cons, List.map_nil, List.length_cons, List.length_nil, List.cons_append, List.nil_append, List.append_nil, List.getElem?_cons_zero, List.getElem?_cons_succ, List.set_cons_zero, List.set_cons_succ, List.replicate, Nat.beq_eq, Nat.ble_eq, Nat.blt_eq, Nat.reduceLT, Nat.reduceLeDiff, Int.reduceLT, Int.reduceLE, Int.reduceNeg, Int.reducePow, decide_true, decide_false, Bool.and_self, Bool.and_true, Bool.true_and, Bool.not_true, Bool.not_false, beq_self_eq_true, ite_true, ite_false, if_true, if_false, Nat.reduceAdd, Nat.reduceSub, Nat.zero_add, Bool.false_eq_true, reduceIte, lstM, isStrM, splitM, List.isEmpty_cons, hl2, strL_parts, forS, enumI, hsz, hg, w]
    rw [e]; rfl
end K11
end L2
end
section
/-! K11J: one text: both takings agree, also as texts. -/
namespace L2
namespace K11
open PySem PySem.Spec PyProof.Rows L2.Vf
variable {F k : Nat} {mh : MH}
theorem Tk.codes {B : Nat} {r : List Nat} {l c : Nat} {acc : List Wd} {z : Res} (h : Tk r l c acc z) (hB : ∀ x ∈ r, x < B) : ∀ e ∈ z.1, e ∈ acc ∨ ∀ x ∈ e.1, x < B := by
  induction h with
  | nil => exact fun e he => .inl he
  | nl _ ih => exact ih fun x hx => hB x (List.mem_cons_of_mem _ hx)
  | sp _ ih => exact ih fun x hx => hB x (List.mem_cons_of_mem _ hx)
  | rem _ _ _ ih => exact ih fun x hx => hB x (List.mem_append_right _ hx)
  | wrong _ _ _ _ => exact fun e he => .inl he
  | @word x r l c acc z _ _ _ hs _ ih =>
    intro e he
    rcases ih (fun y hy => hB y (List.mem_of_mem_drop hy)) e he with q | q
    · rcases List.mem_append.mp q with q | q
      · exact .inl q
      · cases List.mem_singleton.mp q
        exact .inr fun y hy => hB y (List.mem_of_mem_take hy)
    · exact .inr q
/-! ### the data as texts -/
def encD (w : Wd) : PyData := .tuple [.str (S w.1), .int w.2.1, .int w.2.2]
def encOD : Option (Nat × Nat) → PyData
  | none => .none
  | some p => .tuple [.int p.1, .int p.2]
theorem fz_enc (m : MH) (n : Nat) (w : Wd) : fz m (n + 1) (enc w) = some (encD w) := by
  unfold enc encD
  simp only [fz, mapO]
theorem fz_encs (m : MH) (n : Nat) : ∀ ws : List Wd, mapO (fz m (n + 1)) (ws.map enc) = some (ws.map encD)
  | [] => rfl
  | w :: ws => by
    rw [List.map_cons, List.map_cons, mapO, fz_encs m n ws, fz_enc]
theorem fz_words {m : MH} {q : Nat} {ws : List Wd} (n : Nat) (h : m[q]? = some (.lst (ws.map enc))) : fz m (n + 2) (.loc q) = some (.list (ws.map encD)) := by
  rw [fz, h]
  dsimp only
  rw [fz_encs]
theorem fz_two {m : MH} {q a b : Nat} {ws : List Wd} (n : Nat) (h : m[q]? = some (.lst [.loc a, .loc b])) (ha : m[a]? = some (.lst (ws.map enc))) (hb : m[b]? = some (.lst (ws.map enc))) : fz m (n + 3) (.loc q) = some (.list [.list (ws.map encD), .list (ws.map encD)]) := by
  rw [fz, h]
  dsimp only
  rw [mapO, fz_words n ha, mapO, fz_words n hb]
  rfl
theorem fz_o (m : MH) (n : Nat) (o : Option (Nat × Nat)) : fz m (n + 1) (encO o) = some (encOD o) := by
  cases o with
  | none => simp only [encO, encOD, fz]
  | some p =>
    unfold encO encOD encP
    simp only [fz, mapO]
theorem fz_two' {m : MH} {q : Nat} {o : Option (Nat × Nat)} (n : Nat) (h : m[q]? = some (.lst [encO o, encO o])) : fz m (n + 2) (.loc q) = some (.list [encOD o, encOD o]) := by
  rw [fz, h]
  dsimp only
  rw [mapO, fz_o m n o, mapO, fz_o m n o]
  rfl
/-- fit to be shown -/
def fitD (d : PyData) : Bool := d.showable && (!d.hasDict && (Nat.ble d.depth 64 && Nat.ble d.shown.length lim))
theorem repr_of {m : MH} {q : Nat} {d : PyData} (h : fz m 60 (.loc q) = some d) (hf : fitD d = true) : reprN [.loc q] m = some (.str d.shown.cps.toList, m) := by
  unfold reprN
  dsimp only
  rw [if_pos (show isRefM (.loc q) = true from rfl), h]
  dsimp only
  unfold fitD at hf
  rw [if_pos hf]
theorem int_short : ∀ i : Nat, i < 1000 → (PyData.shown (.int (i : Int))).length ≤ 20 := by decide +kernel
theorem log_small {i : Nat} (h : i < 1000) : i.log2 < 10 := by
  by_cases h0 : i = 0
  · subst h0; decide
  · exact (Nat.log2_lt h0).mpr (by omega)
structure Sm (w : Wd) : Prop where
  len : w.1.length ≤ 20
  l : w.2.1 < 1000
  c : w.2.2 < 1000
  cd : ∀ x ∈ w.1, x < 128
theorem int_weight {i : Nat} (h : i < 1000) : (PyData.int (i : Int)).weight ≤ 10 := by
  have := log_small h
  simp only [PyData.weight]
  split
  · omega
  · simp; omega
theorem encD_fit {w : Wd} (h : Sm w) : (encD w).showable = true ∧ (encD w).hasDict = false ∧ (encD w).depth ≤ 1 ∧ (encD w).leavesShort 20 = true ∧ (encD w).weight ≤ 43 := by
  obtain ⟨ws, l, c⟩ := w
  have h2 := log_small h.l
  have h3 := log_small h.c
  have w2 := int_weight h.l
  have w3 := int_weight h.c
  have w1 := h.len
  have c1 : ∀ x ∈ ws, x < 16 ^ 8 := fun x hx => Nat.lt_trans (h.cd x hx) (by decide)
  dsimp only at *
  refine ⟨?_, ?_, ?_, ?_, ?_⟩
  · simp [encD, PyData.showable, PyData.showableAll]; omega
  · simp [encD, PyData.hasDict, PyData.hasDictAll]
  · simp [encD, PyData.depth, PyData.depthAll]
  · have i1 := int_short l h.l
    have i2 := int_short c h.c
    simp only [encD, PyData.leavesShort, PyData.leavesShortAll, S_cps, Bool.and_true, Bool.and_eq_true, decide_eq_true_eq, List.all_eq_true]
    exact ⟨c1, i1, i2⟩
  · simp only [encD, PyData.weight, PyData.weightAll] at *
    have : (S ws).cps.size = ws.length := by simp [S]
    rw [this]
    omega
theorem encs_fit : ∀ {ws : List Wd}, (∀ w ∈ ws, Sm w) → PyData.showableAll (ws.map encD) = true ∧ PyData.hasDictAll (ws.map encD) = false ∧ PyData.depthAll (ws.map encD) ≤ 1 ∧ PyData.leavesShortAll 20 (ws.map encD) = true ∧ PyData.weightAll (ws.map encD) ≤ 44 * ws.length
  | [], _ => by simp [PyData.showableAll, PyData.hasDictAll, PyData.depthAll, PyData.leavesShortAll, PyData.weightAll]
  | w :: ws, h => by
    obtain ⟨a1, a2, a3, a4, a5⟩ := encD_fit (h w List.mem_cons_self)
    obtain ⟨b1, b2, b3, b4, b5⟩ := encs_fit fun x hx => h x (List.mem_cons_of_mem _ hx)
    simp only [List.map_cons, PyData.showableAll, PyData.hasDictAll, PyData.depthAll, PyData.leavesShortAll, PyData.weightAll, a1, a2, a4, b1, b2, b4, List.length_cons]
    exact ⟨rfl, rfl, by omega, rfl, by omega⟩
theorem fit_of {d : PyData} (h1 : d.showable = true) (h2 : d.hasDict = false) (h3 : d.depth ≤ 64) (h4 : d.leavesShort 20 = true) (h5 : d.weight ≤ 700000) : fitD d = true := by
  have h := PyData.shown_le 20 (by decide) d h4
  unfold fitD
  rw [h1, h2]
  simp only [Bool.not_false, Bool.true_and, Bool.and_eq_true, Nat.ble_eq]
  exact ⟨h3, by show _ ≤ 16777216; omega⟩
theorem fit_words {ws : List Wd} (h : ∀ w ∈ ws, Sm w) (hl : ws.length ≤ 1000) : fitD (.list (ws.map encD)) = true ∧ fitD (.list [.list (ws.map encD), .list (ws.map encD)]) = true := by
  obtain ⟨b1, b2, b3, b4, b5⟩ := encs_fit h
  constructor
  · refine fit_of ?_ ?_ ?_ ?_ ?_
    · simp only [PyData.showable, b1]
    · simp only [PyData.hasDict, b2]
    · simp only [PyData.depth]; omega
    · simp only [PyData.leavesShort, b4]
    · simp only [PyData.weight]; omega
  · refine fit_of ?_ ?_ ?_ ?_ ?_
    · simp only [PyData.showable, PyData.showableAll, b1]; rfl
    · simp only [PyData.hasDict, PyData.hasDictAll, b2]; rfl
    · simp only [PyData.depth, PyData.depthAll]; omega
    · simp only [PyData.leavesShort, PyData.leavesShortAll, b4]; rfl
    · simp only [PyData.weight, PyData.weightAll]; omega
theorem fit_o {o : Option (Nat × Nat)} (h : ∀ p, o = some p → p.1 < 1000 ∧ p.2 < 1000) : fitD (.list [encOD o, encOD o]) = true := by
  cases o with
  | none => decide +kernel
  | some p =>
    obtain ⟨l, c⟩ := p
    obtain ⟨hl, hc⟩ := h _ rfl
    have h2 := log_small hl
    have h3 := log_small hc
    have w2 := int_weight hl
    have w3 := int_weight hc
    have i1 := int_short l hl
    have i2 := int_short c hc
    dsimp only at *
    refine fit_of ?_ ?_ ?_ ?_ ?_
    · simp [encOD, PyData.showable, PyData.showableAll]; omega
    · simp [encOD, PyData.hasDict, PyData.hasDictAll]
    · simp [encOD, PyData.depth, PyData.depthAll]
    · simp only [encOD, PyData.leavesShort, PyData.leavesShortAll, Bool.and_true, Bool.and_eq_true, decide_eq_true_eq]
      exact ⟨⟨i1, i2⟩, i1, i2⟩
    · simp only [encOD, PyData.weight, PyData.weightAll] at *
      omega
end K11
end L2
end
section
/-! K11K: one text is right. -/
namespace L2
namespace K11
open PySem PySem.Spec PyProof.Rows L2.Vf
variable {F k : Nat} {mh : MH}
theorem parts_short {s : Nat} {cs p : List Nat} (h : p ∈ parts s cs) : p.length ≤ cs.length := by
  obtain ⟨x, hx, rfl⟩ := List.mem_map.mp h
  have := part_short hx
  rw [S_len] at this
  exact this
theorem chk_loop {rt : Rt} {b e : Nat} {ws : List Wd} {pl : List (List Nat)} {text words wrong : Option MV} (hb : mh[b]? = some (.lst (ws.map enc))) (he : mh[e]? = some (.lst (pl.map .str))) (hg : ∀ w ∈ ws, ∃ told, pl[w.2.1]? = some told ∧ (told.drop w.2.2).take w.1.length = w.1)
    (hs : ∀ p ∈ pl, p.length ≤ 16777216) (hw : ∀ w ∈ ws, w.1.length ≤ 16777216) : ∀ (r : List Wd) (i n : Nat) (x y z : Option MV), ws.drop i = r → r.length < n →
    ∃ x' y' z', forL (nxtL b) (tupG 3 (consG (nameG 5) (consG (nameG 6) (consG (nameG 7) nilG)))) fb__law_text_right_0 rt n i [text, some (.loc b), some (.loc e), words, wrong, x, y, z] mh = .nx [text, some (.loc b), some (.loc e), words, wrong, x', y', z'] mh
  | [], i, n, x, y, z, hd, hn => by
    obtain ⟨n, rfl⟩ : ∃ m, n = m + 1 := ⟨n - 1, by simp at hn; omega⟩
    have hi : ws[i]? = none := by
      have := congrArg List.length hd
      simp at this
      exact List.getElem?_eq_none (by omega)
    refine ⟨x, y, z, forL_end ?_⟩
    unfold nxtL
    simp only [hb, List.getElem?_map, hi, Option.map_none]
  | w :: r, i, n, x, y, z, hd, hn => by
    obtain ⟨n, rfl⟩ : ∃ m, n = m + 1 := ⟨n - 1, by simp at hn; omega⟩
    have hi : ws[i]? = some w := by
      have : (ws.drop i)[0]? = some w := by rw [hd]; rfl
      rw [List.getElem?_drop] at this
      exact this
    have hd1 : ws.drop (i + 1) = r := by
      have := congrArg (List.drop 1) hd
      rw [List.drop_drop] at this
      simpa using this
    have hwm := List.mem_of_getElem? hi
    obtain ⟨told, h1, h2⟩ := hg w hwm
    have hnx : nxtL b i mh = some (some (enc w)) := by
      unfold nxtL
      simp only [hb, List.getElem?_map, hi, Option.map_some]
    obtain ⟨x', y', z', ih⟩ := chk_loop hb he hg hs hw r (i + 1) n (some (.str w.1)) (some (.int w.2.1)) (some (.int w.2.2)) hd1 (by simp at hn; omega)
    refine ⟨x', y', z', ?_⟩
    rw [← ih]
    have hgm : getM (pl.map MV.str) (w.2.1 : Int) = some (.str told) := by
      rw [getM_nat, List.getElem?_map, h1]; rfl
    have hcut : cutG told (some (w.2.2 : Int)) (some ((w.2.2 : Int) + (w.1.length : Int))) = w.1 := by
      have := cutG_nat told w.2.2 (w.2.2 + w.1.length)
      rw [Nat.add_sub_cancel_left, h2] at this
      exact this
    have hb1 : beqL w.1 w.1 = true := by rw [beqL_iff]; simp
    have hst := hs told (List.mem_of_getElem? h1)
    have hsw := hw w hwm
    refine forL_next hnx (env2 := [text, some (.loc b), some (.loc e), words, wrong, some (.str w.1), some (.int w.2.1), some (.int w.2.2)]) (mh2 := mh) ?_ ?_
    · unfold enc
      simp only [lim, bodyR, seqS, setS, asgS, retS, retNS, exprS, ifS, passS, par2S, par3S, toS, bnd, op1D, op2D, opND, nilD, consD, varD, conD, boolD, truD, trM, andD, orD, notD, ifD, andV, orV, callD, callM, callKD, methD, sliceD, partD, noPartD, lft, tupG, nameG, consG, nilG, List.map_cons, List.map_nil, List.length_cons, List.length_nil, List.cons_append, List.nil_append, List.append_nil, List.getElem?_cons_zero, List.getElem?_cons_succ, List.set_cons_zero, List.set_cons_succ, List.replicate, Nat.beq_eq, Nat.ble_eq, Nat.blt_eq, Nat.reduceLT, Nat.reduceLeDiff, Int.reduceLT, Int.reduceLE, Int.reduceNeg, Int.reducePow, decide_true, decide_false, Bool.and_self, Bool.and_true, Bool.true_and, Bool.not_true, Bool.not_false, beq_self_eq_true, ite_true, ite_false, if_true, if_false, Nat.reduceAdd, Nat.reduceSub, Nat.zero_add, Bool.false_eq_true, reduceIte]
    · unfold fb__law_text_right_0
      simp only [lim, bodyR, seqS, setS, asgS, retS, retNS, exprS, ifS, passS, par2S, par3S, toS, bnd, op1D, op2D, opND, nilD, consD, varD, conD, boolD, truD, trM, andD, orD, notD, ifD, andV, orV, callD, callM, callKD, methD, sliceD, partD, noPartD, lft, tupG, nameG, consG, nilG, List.map_cons, List.map_nil, List.length_cons, List.length_nil, List.cons_append, List.nil_append, List.append_nil, List.getElem?_cons_zero, List.getElem?_cons_succ, List.set_cons_zero, List.set_cons_succ, List.replicate, Nat.beq_eq, Nat.ble_eq, Nat.blt_eq, Nat.reduceLT, Nat.reduceLeDiff, Int.reduceLT, Int.reduceLE, Int.reduceNeg, Int.reducePow, decide_true, decide_false, Bool.and_self, Bool.and_true, Bool.true_and, Bool.not_true, Bool.not_false, beq_self_eq_true, ite_true, ite_false, if_true, if_false, Nat.reduceAdd, Nat.reduceSub, Nat.zero_add, Bool.false_eq_true, reduceIte, ixM, he, hgm, lenN, lenM, hsw, addM, sliceM, hst, hcut, neM, eqB, hb1]
theorem kw_text (v : MV) : kwIn ["text"] ["text"] [v] = [v] := by rfl
/-- mh' goes on from mh -/
structure Ap (mh mh' : MH) : Prop where
  le : mh.length ≤ mh'.length
  keep : ∀ q, q < mh.length → mh'[q]? = mh[q]?
theorem Ap.trans {a b c : MH} (x : Ap a b) (y : Ap b c) : Ap a c := ⟨Nat.le_trans x.le y.le, fun q h => (y.keep q (Nat.lt_of_lt_of_le h x.le)).trans (x.keep q h)⟩
theorem Ap.app {nw : MH} : Ap mh (mh ++ nw) := ⟨by simp, fun q h => List.getElem?_append_left h⟩
theorem Ap.refl : Ap mh mh := ⟨Nat.le_refl _, fun _ _ => rfl⟩
theorem get_new (m : MH) (o : MO) : (m ++ [o])[m.length]? = some o := by simp
theorem get_old {m : MH} {q : Nat} {o : MO} (x : MO) (h : m[q]? = some o) : (m ++ [x])[q]? = some o := by rw [List.getElem?_append_left (List.getElem?_eq_some_iff.mp h).1]; exact h
theorem r_tr (as : List MV) : rp F (k + 1) 14 as mh = bodyR d__law_text_right 1 8 ⟨rp F k, F⟩ as mh := rfl
theorem repr_nat (s : Str) : beqL s.cps.toList s.cps.toList = true := by rw [beqL_iff]; simp
theorem tr_spec {cs : List Nat} (hl : cs.length ≤ 600) (hc : ∀ x ∈ cs, x < 128) (hF : 1000 ≤ F) : ∃ mh', rp F (k + 5) 14 [.str cs] mh = .ok (.bl true) mh' ∧ Ap mh mh' := by
  obtain ⟨z, m1, e1, tk, fr, ha, hlt, gd⟩ := lt_spec (F := F) (k := k + 2) (mh := mh) (cs := cs) (by omega) (by omega)
  have tw : ∀ m : MH, rp F (k + 4) 6 [.str cs] m = .ok (.loc m.length) (m ++ [.lst (z.1.map enc)]) := fun m => tw_spec (F := F) (k := k + 1) (mh := m) (by omega) (by omega) tk
  have ws : ∀ m : MH, rp F (k + 4) 7 [.str cs] m = .ok (encO z.2) (m ++ [.lst (z.1.map enc)]) := fun m => ws_spec (F := F) (k := k + 1) (mh := m) (by omega) (by omega) tk
  obtain ⟨b1, b2, b3⟩ := tk.bounds
  have b4 := tk.codes (B := 128) hc
  have sm : ∀ w ∈ z.1, Sm w := by
    intro w hw
    rcases b2 w hw with h | ⟨h1, h2, h3⟩
    · cases h
    · rcases b4 w hw with h | h
      · cases h
      · exact ⟨h1, by omega, by omega, h⟩
  obtain ⟨f1, f2⟩ := fit_words sm (by simp at b1; omega)
  have f3 : fitD (.list [encOD z.2, encOD z.2]) = true := fit_o fun p hp => by have := b3 p hp; exact ⟨by omega, by omega⟩
  -- the heaps, one behind another
  generalize hA : mh.length = a at *
  generalize hW : MO.lst (z.1.map enc) = W at *
  generalize hm2 : m1 ++ [W] = m2
  generalize hm3 : m2 ++ [W] = m3
  generalize hm4 : m3 ++ [MO.lst [.loc m1.length, .loc m2.length]] = m4
  generalize hm5 : m4 ++ [MO.lst [.loc a, .loc a]] = m5
  generalize hm6 : m5 ++ [W] = m6
  generalize hm7 : m6 ++ [W] = m7
  generalize hm8 : m7 ++ [MO.lst [encO z.2, encO z.2]] = m8
  generalize hm9 : m8 ++ [MO.lst [encO z.2, encO z.2]] = m9
  generalize hm10 : m9 ++ [MO.lst ((parts 10 cs).map .str)] = m10
  have a2 : m2[a]? = some W := hm2 ▸ get_old _ ha
  have a3 : m3[a]? = some W := hm3 ▸ get_old _ a2
  have a4 : m4[a]? = some W := hm4 ▸ get_old _ a3
  have a5 : m5[a]? = some W := hm5 ▸ get_old _ a4
  have a6 : m6[a]? = some W := hm6 ▸ get_old _ a5
  have a7 : m7[a]? = some W := hm7 ▸ get_old _ a6
  have a8 : m8[a]? = some W := hm8 ▸ get_old _ a7
  have a9 : m9[a]? = some W := hm9 ▸ get_old _ a8
  have a10 : m10[a]? = some W := hm10 ▸ get_old _ a9
  have t2 : m2[m1.length]? = some W := hm2 ▸ get_new _ _
  have t3 : m3[m1.length]? = some W := hm3 ▸ get_old _ t2
  have t4 : m4[m1.length]? = some W := hm4 ▸ get_old _ t3
  have t5 : m5[m1.length]? = some W := hm5 ▸ get_old _ t4
  have t6 : m6[m1.length]? = some W := hm6 ▸ get_old _ t5
  have t7 : m7[m1.length]? = some W := hm7 ▸ get_old _ t6
  have t8 : m8[m1.length]? = some W := hm8 ▸ get_old _ t7
  have t9 : m9[m1.length]? = some W := hm9 ▸ get_old _ t8
  have t10 : m10[m1.length]? = some W := hm10 ▸ get_old _ t9
  have u3 : m3[m2.length]? = some W := hm3 ▸ get_new _ _
  have u4 : m4[m2.length]? = some W := hm4 ▸ get_old _ u3
  have p4 : m4[m3.length]? = some (.lst [.loc m1.length, .loc m2.length]) := hm4 ▸ get_new _ _
  have p5 : m5[m4.length]? = some (.lst [.loc a, .loc a]) := hm5 ▸ get_new _ _
  have p8 : m8[m7.length]? = some (.lst [encO z.2, encO z.2]) := hm8 ▸ get_new _ _
  have p9 : m9[m8.length]? = some (.lst [encO z.2, encO z.2]) := hm9 ▸ get_new _ _
  have p10 : m10[m9.length]? = some (.lst ((parts 10 cs).map .str)) := hm10 ▸ get_new _ _
  subst hW
  have r4 := repr_of (fz_two 57 p4 t4 u4) f2
  have r5 := repr_of (fz_two 57 p5 a5 a5) f2
  have r8 := repr_of (fz_two' 58 p8) f3
  have r9 := repr_of (fz_two' 58 p9) f3
  obtain ⟨x', y', z', lp⟩ := chk_loop (mh := m10) (rt := ⟨rp F (k + 4), F⟩) (text := some (.str cs)) (words := some (.loc a)) (wrong := some (encO z.2)) t10 p10 gd (fun p hp => by have := parts_short hp; omega) (fun w hw => by have := (sm w hw).len; omega) z.1 0 F none none none rfl (by simp at b1; omega)
  generalize hm11 : m10.set m1.length (MO.lst (z.1.map enc ++ [MV.non])) = m11
  generalize hm12 : m11 ++ [MO.lst (z.1.map enc)] = m12
  have hne : m1.length ≠ a := by omega
  have a11 : m11[a]? = some (.lst (z.1.map enc)) := by rw [← hm11, List.getElem?_set_ne hne]; exact a10
  have a12 : m12[a]? = some (.lst (z.1.map enc)) := hm12 ▸ get_old _ a11
  have p12 : m12[m11.length]? = some (.lst (z.1.map enc)) := hm12 ▸ get_new _ _
  have r12 := repr_of (fz_words 58 p12) f1
  have r12' := repr_of (fz_words 58 a12) f1
  have hA2 : (z.1.map enc).length < 16777216 := by simp at b1 ⊢; omega
  have hl2 : cs.length ≤ 16777214 := by omega
  refine ⟨m12, ?_, ?_⟩
  · rw [r_tr]
    unfold d__law_text_right
    simp only [lim, bodyR, seqS, setS, asgS, retS, retNS, exprS, ifS, passS, par2S, par3S, toS, bnd, op1D, op2D, opND, nilD, consD, varD, conD, boolD, truD, trM, andD, orD, notD, ifD, andV, orV, callD, callM, callKD, methD, sliceD, partD, noPartD, lft, tupG, nameG, consG, nilG, List.map_cons, List.map_nil, List.length_cons, List.length_nil, List.cons_append, List.nil_append, List.append_nil, List.getElem?_cons_zero, List.getElem?_cons_succ, List.set_cons_zero, List.set_cons_succ, List.replicate, Nat.beq_eq, Nat.ble_eq, Nat.blt_eq, Nat.reduceLT, Nat.reduceLeDiff, Int.reduceLT, Int.reduceLE, Int.reduceNeg, Int.reducePow, decide_true, decide_false, Bool.and_self, Bool.and_true, Bool.true_and, Bool.not_true, Bool.not_false, beq_self_eq_true, ite_true, ite_false, if_true, if_false, Nat.reduceAdd, Nat.reduceSub, Nat.zero_add, Bool.false_eq_true, reduceIte, show (Nat.beq 0 0 && Nat.beq 1 1) = true from rfl, e1, tw, hm2, kw_text, hm3, lstM, hm4, r4, hm5, r5, neM, eqB, repr_nat, ws, hm6, hm7, hm8, r8, hm9, r9, isStrM, splitM, List.isEmpty_cons, hl2, strL_parts, hm10, forS, anyI, t10, lp, isLstM, appendM, hA2, hm11, hm12, r12, r12', eqM]
  · have ap1 : Ap mh m1 := ⟨by have := fr.le; omega, fun q hq => fr.keep q (by omega) (by omega)⟩
    have ap10 : Ap m1 m10 := by
      rw [← hm10, ← hm9, ← hm8, ← hm7, ← hm6, ← hm5, ← hm4, ← hm3, ← hm2]
      exact Ap.app.trans (Ap.app.trans (Ap.app.trans (Ap.app.trans (Ap.app.trans (Ap.app.trans (Ap.app.trans (Ap.app.trans Ap.app)))))))
    refine ⟨?_, fun q hq => ?_⟩
    · rw [← hm12, List.length_append, ← hm11, List.length_set]
      have := ap1.le; have := ap10.le
      omega
    · have h1 := ap1.le
      have h2 := ap10.le
      rw [← hm12, List.getElem?_append_left (by rw [← hm11, List.length_set]; omega), ← hm11, List.getElem?_set_ne (by omega), ap10.keep q (by omega), ap1.keep q (by omega)]
end K11
end L2
end
section
/-! K11L: the drawn texts, the law. -/
namespace L2
namespace K11
open PySem PySem.Spec PyProof.Rows L2.Vf
variable {F k : Nat} {mh : MH}
/-- small texts -/
def Tx1 (B : Nat) (v : MV) : Prop := ∃ w : List Nat, v = .str w ∧ w.length ≤ B ∧ ∀ c ∈ w, c < 128
def tx1B (B : Nat) : MV → Bool
  | .str w => Nat.ble w.length B && w.all fun c => Nat.blt c 128
  | _ => false
theorem tx1_of {B : Nat} {xs : List MV} (h : xs.all (tx1B B) = true) : ∀ v ∈ xs, Tx1 B v := by
  intro v hv
  have := List.all_eq_true.mp h v hv
  cases v with
  | str w =>
    obtain ⟨h1, h2⟩ := Bool.and_eq_true_iff.mp (show (Nat.ble w.length B && w.all fun c => Nat.blt c 128) = true from this)
    exact ⟨w, rfl, Nat.ble_eq ▸ h1, fun c hc => by have := List.all_eq_true.mp h2 c hc; rw [Nat.blt_eq] at this; exact this⟩
  | _ => cases this
def seps : List MV := [.str [], .str [32], .str [32], .str [10], .str [32, 32], .str [32, 35, 32, 111, 117, 116, 32, 36, 10], .str [35, 10], .str [10, 10, 32]]
def odds : List MV := [.str [36], .str [65], .str [95], .str [62], .str [45], .str [33], .str [126], .str [42], .str [91], .str [63], .str [58]]
def pcs : List MV := [.str [100, 101, 102], .str [120], .str [119, 111, 114, 100], .str [97, 49, 98, 50], .str (repL [110] 20), .str (repL [110] 21), .str [48], .str [55], .str [49, 50], .str [49, 50, 51], .str [48, 48], .str [48, 57, 57], .str [40], .str [41], .str [44], .str [61], .str [60], .str [43], .str [46], .str [101, 110, 100]]
theorem seps_ok : ∀ v ∈ seps, Tx1 9 v := tx1_of (by decide +kernel)
theorem odds_ok : ∀ v ∈ odds, Tx1 1 v := tx1_of (by decide +kernel)
theorem pcs_ok : ∀ v ∈ pcs, Tx1 21 v := tx1_of (by decide +kernel)
theorem turn_spec {p q : Nat} {cs : List Nat} {t : Option MV} (h : Pot mh p) (hq : mh[q]? = some (.lst pcs)) (hp : q ≠ p) (hl : cs.length ≤ 1000) (hc : ∀ c ∈ cs, c < 128) :
    ∃ cs' mh', fb__law_drawn_0 ⟨rp F (k + 2), F⟩ [some (.loc p), some (.loc q), some (.str cs), t] mh = .nx [some (.loc p), some (.loc q), some (.str cs'), t] mh' ∧ cs'.length ≤ cs.length + 31 ∧ (∀ c ∈ cs', c < 128) ∧ Pot mh' p ∧ Fr p mh mh' := by
  obtain ⟨m1, v1, e1, i1, P1, f1⟩ := pick_spec (F := F) (k := k) h hq hp (by decide) (by decide)
  obtain ⟨w1, rfl, l1, c1⟩ := pcs_ok v1 i1
  have hlt1 := P1.lt
  obtain ⟨m2, v2, e2, i2, P2, f2⟩ := pick_spec (F := F) (k := k) (mh := m1 ++ [.lst seps]) (q := m1.length) (xs := seps) P1.app (get_new _ _) (by omega) (by decide) (by decide)
  obtain ⟨w2, rfl, l2, c2⟩ := seps_ok v2 i2
  obtain ⟨m3, d, e3, d0, d1, P3, L3, K3⟩ := draw_spec (F := F) (k := k + 1) (n := 14) P2 (by decide) (by decide)
  have fr3 : Fr p mh m3 := ((f1.trans Fr.app).trans f2).trans ⟨by omega, fun r _ n => K3 r n⟩
  have a1 : cs.length + w1.length ≤ 16777216 := by omega
  have a2 : (cs ++ w1).length + w2.length ≤ 16777216 := by simp; omega
  have cc : ∀ c ∈ cs ++ w1 ++ w2, c < 128 := by
    intro c hcm
    rcases List.mem_append.mp hcm with h | h
    · rcases List.mem_append.mp h with h | h
      · exact hc c h
      · exact c1 c h
    · exact c2 c h
  unfold seps at e2
  unfold fb__law_drawn_0
  by_cases hd : d = 0
  · subst hd
    have hlt3 := P3.lt
    obtain ⟨m4, v4, e4, i4, P4, f4⟩ := pick_spec (F := F) (k := k) (mh := m3 ++ [.lst odds]) (q := m3.length) (xs := odds) P3.app (get_new _ _) (by omega) (by decide) (by decide)
    obtain ⟨w4, rfl, l4, c4⟩ := odds_ok v4 i4
    have a4 : (cs ++ w1 ++ w2).length + w4.length ≤ 16777216 := by simp; omega
    refine ⟨cs ++ w1 ++ w2 ++ w4, m4, ?_, by simp; omega, fun c hcm => ?_, P4, (fr3.trans Fr.app).trans f4⟩
    · unfold odds at e4
      simp only [lim, bodyR, seqS, setS, asgS, retS, retNS, exprS, ifS, passS, par2S, par3S, toS, bnd, op1D, op2D, opND, nilD, consD, varD, conD, boolD, truD, trM, andD, orD, notD, ifD, andV, orV, callD, callM, callKD, methD, sliceD, partD, noPartD, lft, tupG, nameG, consG, nilG, List.map_cons, List.map_nil, List.length_cons, List.length_nil, List.cons_append, List.nil_append, List.append_nil, List.getElem?_cons_zero, List.getElem?_cons_succ, List.set_cons_zero, List.set_cons_succ, List.replicate, Nat.beq_eq, Nat.ble_eq, Nat.blt_eq, Nat.reduceLT, Nat.reduceLeDiff, Int.reduceLT, Int.reduceLE, Int.reduceNeg, Int.reducePow, decide_true, decide_false, Bool.and_self, Bool.and_true, Bool.true_and, Bool.not_true, Bool.not_false, beq_self_eq_true, ite_true, ite_false, if_true, if_false, Nat.reduceAdd, Nat.reduceSub, Nat.zero_add, Bool.false_eq_true, reduceIte, e1, addM, a1, lstM, e2, a2, e3, eqM, eqB, e4, a4]
    · rcases List.mem_append.mp hcm with h | h
      · exact cc c h
      · exact c4 c h
  · refine ⟨cs ++ w1 ++ w2, m3, ?_, by simp; omega, cc, P3, fr3⟩
    simp only [lim, bodyR, seqS, setS, asgS, retS, retNS, exprS, ifS, passS, par2S, par3S, toS, bnd, op1D, op2D, opND, nilD, consD, varD, conD, boolD, truD, trM, andD, orD, notD, ifD, andV, orV, callD, callM, callKD, methD, sliceD, partD, noPartD, lft, tupG, nameG, consG, nilG, List.map_cons, List.map_nil, List.length_cons, List.length_nil, List.cons_append, List.nil_append, List.append_nil, List.getElem?_cons_zero, List.getElem?_cons_succ, List.set_cons_zero, List.set_cons_succ, List.replicate, Nat.beq_eq, Nat.ble_eq, Nat.blt_eq, Nat.reduceLT, Nat.reduceLeDiff, Int.reduceLT, Int.reduceLE, Int.reduceNeg, Int.reducePow, decide_true, decide_false, Bool.and_self, Bool.and_true, Bool.true_and, Bool.not_true, Bool.not_false, beq_self_eq_true, ite_true, ite_false, if_true, if_false, Nat.reduceAdd, Nat.reduceSub, Nat.zero_add, Bool.false_eq_true, reduceIte, e1, addM, a1, lstM, e2, a2, e3, eqM, eqB, hd]
theorem drawn_loop {p q N : Nat} (hp : q ≠ p) (hN : N ≤ 17) : ∀ (m i n : Nat) (cs : List Nat) (mh : MH) (t : Option MV), i + m = N → m < n → Pot mh p → mh[q]? = some (.lst pcs) → cs.length ≤ 31 * i → (∀ c ∈ cs, c < 128) →
    ∃ cs' mh' t', forL (nxtR 0 N) (nameG 3) fb__law_drawn_0 ⟨rp F (k + 2), F⟩ n i [some (.loc p), some (.loc q), some (.str cs), t] mh = .nx [some (.loc p), some (.loc q), some (.str cs'), t'] mh' ∧ cs'.length ≤ 31 * N ∧ (∀ c ∈ cs', c < 128) ∧ Pot mh' p ∧ Fr p mh mh'
  | 0, i, n + 1, cs, mh, t, h1, h2, hP, hq, hl, hc => by
    refine ⟨cs, mh, t, forL_end ?_, by omega, hc, hP, .refl⟩
    unfold nxtR
    rw [show Nat.blt i N = false from by rw [Bool.eq_false_iff, Ne, Nat.blt_eq]; omega]
    rfl
  | m + 1, i, n + 1, cs, mh, t, h1, h2, hP, hq, hl, hc => by
    obtain ⟨c2, m2, e, l2, cc, P2, f2⟩ := turn_spec (F := F) (k := k) (t := some (.int (0 + (i : Int)))) hP hq hp (by omega) hc
    have hq2 : m2[q]? = some (.lst pcs) := by rw [f2.keep q (List.getElem?_eq_some_iff.mp hq).1 hp]; exact hq
    obtain ⟨c3, m3, t3, e3, l3, cc3, P3, f3⟩ := drawn_loop hp hN m (i + 1) n c2 m2 (some (.int (0 + (i : Int)))) (by omega) (by omega) P2 hq2 (by omega) cc
    refine ⟨c3, m3, t3, ?_, l3, cc3, P3, f2.trans f3⟩
    rw [← e3]
    refine forL_next (v := .int (0 + (i : Int))) ?_ rfl e
    unfold nxtR
    rw [show Nat.blt i N = true from by rw [Nat.blt_eq]; omega]
    rfl
theorem r_dn (as : List MV) : rp F (k + 1) 13 as mh = bodyR d__law_drawn 1 4 ⟨rp F k, F⟩ as mh := rfl
theorem drawn_spec {p : Nat} (h : Pot mh p) (hF : 100 ≤ F) : ∃ cs mh', rp F (k + 3) 13 [.loc p] mh = .ok (.str cs) mh' ∧ cs.length ≤ 600 ∧ (∀ c ∈ cs, c < 128) ∧ Pot mh' p ∧ Fr p mh mh' := by
  rw [r_dn]
  unfold d__law_drawn
  have hlt := h.lt
  obtain ⟨m1, d, e1, d0, d1, P1, L1, K1⟩ := draw_spec (F := F) (k := k + 1) (mh := mh ++ [.lst pcs]) (n := 18) h.app (by decide) (by decide)
  obtain ⟨j, rfl⟩ := Int.eq_ofNat_of_zero_le d0
  have hq : m1[mh.length]? = some (.lst pcs) := by rw [K1 _ (by omega)]; exact get_new _ _
  obtain ⟨c2, m2, t2, e2, l2, cc2, P2, f2⟩ := drawn_loop (F := F) (k := k) (p := p) (q := mh.length) (N := j) (by omega) (by omega) j 0 F [] m1 none (by omega) (by omega) P1 hq (by simp) (by simp)
  refine ⟨c2, m2, ?_, by omega, cc2, P2, (Fr.app.trans ⟨by omega, fun r _ n => K1 r n⟩).trans f2⟩
  unfold pcs at e1
  have hj : Vf.inR (j : Int) = true := by
    unfold Vf.inR
    simp only [Bool.and_eq_true, decide_eq_true_eq]
    omega
  have m20 : mulM (.str [110]) (.int 20) = fun mh => some (.str (repL [110] 20), mh) := rfl
  have m21 : mulM (.str [110]) (.int 21) = fun mh => some (.str (repL [110] 21), mh) := rfl
  simp only [lim, bodyR, seqS, setS, asgS, retS, retNS, exprS, ifS, passS, par2S, par3S, toS, bnd, op1D, op2D, opND, nilD, consD, varD, conD, boolD, truD, trM, andD, orD, notD, ifD, andV, orV, callD, callM, callKD, methD, sliceD, partD, noPartD, lft, tupG, nameG, consG, nilG, List.map_cons, List.map_nil, List.length_cons, List.length_nil, List.cons_append, List.nil_append, List.append_nil, List.getElem?_cons_zero, List.getElem?_cons_succ, List.set_cons_zero, List.set_cons_succ, List.replicate, Nat.beq_eq, Nat.ble_eq, Nat.blt_eq, Nat.reduceLT, Nat.reduceLeDiff, Int.reduceLT, Int.reduceLE, Int.reduceNeg, Int.reducePow, decide_true, decide_false, Bool.and_self, Bool.and_true, Bool.true_and, Bool.not_true, Bool.not_false, beq_self_eq_true, ite_true, ite_false, if_true, if_false, Nat.reduceAdd, Nat.reduceSub, Nat.zero_add, Bool.false_eq_true, reduceIte, m20, m21, lstM, e1, forS, rng1I, hj, Int.toNat_natCast, e2]
theorem Pot.ap {p : Nat} {m : MH} (h : Pot mh p) (a : Ap mh m) : Pot m p := by
  obtain ⟨x, y, e, r⟩ := h.ex
  exact ⟨x, y, by rw [a.keep p h.lt]; exact e, r⟩
theorem r_law (as : List MV) : rp F (k + 1) 15 as mh = bodyR d_law 1 5 ⟨rp F k, F⟩ as mh := rfl
abbrev lenv (ns : List Int) (a b c d : Option MV) : Env' := [some (.fl (ns.map .int)), a, b, c, d]
theorem ten_spec {p : Nat} {ns : List Int} {a c d : Option MV} (h : Pot mh p) (hF : 1000 ≤ F) : ∃ xs m, lcL (nxtR 0 10) (nameG 4) yesD ce_law_1 ⟨rp F (k + 5), F⟩ (lenv ns a (some (.loc p)) c d) F 0 [] mh = some (xs, m) ∧ (∀ v ∈ xs, v = .bl true) := by
  obtain ⟨xs, m, e, hx, _⟩ := lcL_all (nxt := nxtR 0 10) (g := nameG 4) (te := ce_law_1) (rt := ⟨rp F (k + 5), F⟩) (env := lenv ns a (some (.loc p)) c d) (Pv := fun v => v = .bl true) (fun _ m => Pot m p) 10 (by omega) (by
    intro i m hi hP
    obtain ⟨cs, m2, e2, l2, c2, P2, _⟩ := drawn_spec (F := F) (k := k + 2) hP (by omega)
    obtain ⟨m3, e3, a3⟩ := tr_spec (F := F) (k := k) (mh := m2) l2 c2 hF
    refine ⟨.int (0 + (i : Int)), lenv ns a (some (.loc p)) c (some (.int (0 + (i : Int)))), .bl true, m3, ?_, rfl, ?_, rfl, P2.ap a3⟩
    · unfold nxtR
      rw [show Nat.blt i 10 = true from by rw [Nat.blt_eq]; omega]
      rfl
    · unfold ce_law_1
      simp only [lim, bodyR, seqS, setS, asgS, retS, retNS, exprS, ifS, passS, par2S, par3S, toS, bnd, op1D, op2D, opND, nilD, consD, varD, conD, boolD, truD, trM, andD, orD, notD, ifD, andV, orV, callD, callM, callKD, methD, sliceD, partD, noPartD, lft, tupG, nameG, consG, nilG, List.map_cons, List.map_nil, List.length_cons, List.length_nil, List.cons_append, List.nil_append, List.append_nil, List.getElem?_cons_zero, List.getElem?_cons_succ, List.set_cons_zero, List.set_cons_succ, List.replicate, Nat.beq_eq, Nat.ble_eq, Nat.blt_eq, Nat.reduceLT, Nat.reduceLeDiff, Int.reduceLT, Int.reduceLE, Int.reduceNeg, Int.reducePow, decide_true, decide_false, Bool.and_self, Bool.and_true, Bool.true_and, Bool.not_true, Bool.not_false, beq_self_eq_true, ite_true, ite_false, if_true, if_false, Nat.reduceAdd, Nat.reduceSub, Nat.zero_add, Bool.false_eq_true, reduceIte, e2, e3]) (by
    intro m _
    rfl) 10 0 F [] mh rfl (by omega) h (by simp)
  exact ⟨xs, m, e, hx⟩
theorem k_spec {ns : List Int} {i : Nat} {b c d : Option MV} (hi : i ≤ 2) (hF : 1000 ≤ F) : ∃ b' m, fb_law_2 ⟨rp F (k + 5), F⟩ (lenv ns (some (.int i)) b c d) mh = .nx (lenv ns (some (.int i)) b' c d) m := by
  obtain ⟨m1, p, e1, P1, _⟩ := pot_spec (F := F) (k := k + 4) (mh := mh) (ns := ns) hi
  obtain ⟨xs, m2, e2, hx⟩ := ten_spec (F := F) (k := k) (ns := ns) (a := some (.int i)) (c := c) (d := none) P1 hF
  refine ⟨some (.loc p), m2 ++ [.lst xs], ?_⟩
  unfold fb_law_2
  have i10 : Vf.inR 10 = true := rfl
  have t10 : Int.toNat 10 = 10 := rfl
  have ab := allB_true hx
  simp only [lim, bodyR, seqS, setS, asgS, retS, retNS, exprS, ifS, passS, par2S, par3S, toS, bnd, op1D, op2D, opND, nilD, consD, varD, conD, boolD, truD, trM, andD, orD, notD, ifD, andV, orV, callD, callM, callKD, methD, sliceD, partD, noPartD, lft, tupG, nameG, consG, nilG, List.map_cons, List.map_nil, List.length_cons, List.length_nil, List.cons_append, List.nil_append, List.append_nil, List.getElem?_cons_zero, List.getElem?_cons_succ, List.set_cons_zero, List.set_cons_succ, List.replicate, Nat.beq_eq, Nat.ble_eq, Nat.blt_eq, Nat.reduceLT, Nat.reduceLeDiff, Int.reduceLT, Int.reduceLE, Int.reduceNeg, Int.reducePow, decide_true, decide_false, Bool.and_self, Bool.and_true, Bool.true_and, Bool.not_true, Bool.not_false, beq_self_eq_true, ite_true, ite_false, if_true, if_false, Nat.reduceAdd, Nat.reduceSub, Nat.zero_add, Bool.false_eq_true, reduceIte, e1, lcD, wipeE, rng1I, i10, t10, e2, allN, List.getElem?_concat_length, ab]
theorem ks_loop {ns : List Int} {N : Nat} (hN : N ≤ 2) (hF : 1000 ≤ F) : ∀ (m i n : Nat) (mh : MH) (a b c d : Option MV), i + m = N → m < n → ∃ a' b' m', forL (nxtR 0 N) (nameG 1) fb_law_2 ⟨rp F (k + 5), F⟩ n i (lenv ns a b c d) mh = .nx (lenv ns a' b' c d) m'
  | 0, i, n + 1, mh, a, b, c, d, h1, h2 => by
    refine ⟨a, b, mh, forL_end ?_⟩
    unfold nxtR
    rw [show Nat.blt i N = false from by rw [Bool.eq_false_iff, Ne, Nat.blt_eq]; omega]
    rfl
  | m + 1, i, n + 1, mh, a, b, c, d, h1, h2 => by
    obtain ⟨b', m2, e⟩ := k_spec (F := F) (k := k) (mh := mh) (ns := ns) (i := i) (b := b) (c := c) (d := d) (by omega) hF
    obtain ⟨a3, b3, m3, e3⟩ := ks_loop hN hF m (i + 1) n m2 (some (.int i)) b' c d (by omega) (by omega)
    refine ⟨a3, b3, m3, ?_⟩
    rw [← e3]
    refine forL_next (v := .int (i : Int)) ?_ rfl e
    unfold nxtR
    rw [show Nat.blt i N = true from by rw [Nat.blt_eq]; omega, Int.zero_add]
    rfl
def fixT : List (List Nat) := [[], [32], [10], [35], [120], [120, 35, 121], [57], [36]]
theorem fix_ok : ∀ w ∈ fixT, w.length ≤ 600 ∧ ∀ c ∈ w, c < 128 := by decide
theorem fix_spec {q : Nat} {ns : List Int} {a b c d : Option MV} (h : mh[q]? = some (.lst (fixT.map .str))) (hF : 1000 ≤ F) : ∃ xs m, lcL (nxtL q) (nameG 3) yesD ce_law_0 ⟨rp F (k + 5), F⟩ (lenv ns a b c d) F 0 [] mh = some (xs, m) ∧ (∀ v ∈ xs, v = .bl true) := by
  obtain ⟨xs, m, e, hx, _⟩ := lcL_all (nxt := nxtL q) (g := nameG 3) (te := ce_law_0) (rt := ⟨rp F (k + 5), F⟩) (env := lenv ns a b c d) (Pv := fun v => v = .bl true) (fun _ m => m[q]? = some (.lst (fixT.map .str))) 8 (by omega) (by
    intro i m hi hq
    have hw : fixT[i]? = some fixT[i] := List.getElem?_eq_getElem hi
    obtain ⟨l2, c2⟩ := fix_ok fixT[i] (List.getElem_mem hi)
    obtain ⟨m3, e3, a3⟩ := tr_spec (F := F) (k := k) (mh := m) l2 c2 hF
    refine ⟨.str fixT[i], lenv ns a b (some (.str fixT[i])) d, .bl true, m3, ?_, rfl, ?_, rfl, ?_⟩
    · unfold nxtL
      simp only [hq, List.getElem?_map, hw, Option.map_some]
    · unfold ce_law_0
      simp only [lim, bodyR, seqS, setS, asgS, retS, retNS, exprS, ifS, passS, par2S, par3S, toS, bnd, op1D, op2D, opND, nilD, consD, varD, conD, boolD, truD, trM, andD, orD, notD, ifD, andV, orV, callD, callM, callKD, methD, sliceD, partD, noPartD, lft, tupG, nameG, consG, nilG, List.map_cons, List.map_nil, List.length_cons, List.length_nil, List.cons_append, List.nil_append, List.append_nil, List.getElem?_cons_zero, List.getElem?_cons_succ, List.set_cons_zero, List.set_cons_succ, List.replicate, Nat.beq_eq, Nat.ble_eq, Nat.blt_eq, Nat.reduceLT, Nat.reduceLeDiff, Int.reduceLT, Int.reduceLE, Int.reduceNeg, Int.reducePow, decide_true, decide_false, Bool.and_self, Bool.and_true, Bool.true_and, Bool.not_true, Bool.not_false, beq_self_eq_true, ite_true, ite_false, if_true, if_false, Nat.reduceAdd, Nat.reduceSub, Nat.zero_add, Bool.false_eq_true, reduceIte, e3]
    · rw [a3.keep q (List.getElem?_eq_some_iff.mp hq).1]; exact hq) (by
    intro m hq
    unfold nxtL
    rw [hq]
    rfl) 8 0 F [] mh rfl (by omega) h (by simp)
  exact ⟨xs, m, e, hx⟩
theorem law_spec {ns : List Int} (hF : 1000 ≤ F) : ∃ m, rp F (k + 6) 15 [.fl (ns.map .int)] mh = .ok (.bl true) m := by
  rw [r_law]
  unfold d_law
  obtain ⟨N, hN, eN⟩ : ∃ N : Nat, N ≤ 2 ∧ (if (if (ns.length : Int) < 2 then (ns.length : Int) else 2) > 1 then (if (ns.length : Int) < 2 then (ns.length : Int) else 2) else 1) = (N : Int) := by
    by_cases h : (ns.length : Int) < 2
    · refine ⟨1, by omega, ?_⟩
      rw [if_pos h, if_neg (by omega)]
      rfl
    · refine ⟨2, by omega, ?_⟩
      rw [if_neg h]
      rfl
  have hr : Vf.inR (N : Int) = true := by
    unfold Vf.inR
    simp only [Bool.and_eq_true, decide_eq_true_eq]
    omega
  obtain ⟨a', b', m', e⟩ := ks_loop (F := F) (k := k) (ns := ns) hN hF N 0 F mh none none none none (by omega) (by omega)
  obtain ⟨xs, m2, e2, hx⟩ := fix_spec (F := F) (k := k) (mh := m' ++ [.lst (fixT.map .str)]) (q := m'.length) (ns := ns) (a := a') (b := b') (c := none) (d := none) (get_new _ _) hF
  refine ⟨m2 ++ [.lst xs], ?_⟩
  have ab := allB_true hx
  unfold fixT at e2
  simp only [List.map_cons, List.map_nil] at e2
  simp only [lim, bodyR, seqS, setS, asgS, retS, retNS, exprS, ifS, passS, par2S, par3S, toS, bnd, op1D, op2D, opND, nilD, consD, varD, conD, boolD, truD, trM, andD, orD, notD, ifD, andV, orV, callD, callM, callKD, methD, sliceD, partD, noPartD, lft, tupG, nameG, consG, nilG, List.map_cons, List.map_nil, List.length_cons, List.length_nil, List.cons_append, List.nil_append, List.append_nil, List.getElem?_cons_zero, List.getElem?_cons_succ, List.set_cons_zero, List.set_cons_succ, List.replicate, Nat.beq_eq, Nat.ble_eq, Nat.blt_eq, Nat.reduceLT, Nat.reduceLeDiff, Int.reduceLT, Int.reduceLE, Int.reduceNeg, Int.reducePow, decide_true, decide_false, Bool.and_self, Bool.and_true, Bool.true_and, Bool.not_true, Bool.not_false, beq_self_eq_true, ite_true, ite_false, if_true, if_false, Nat.reduceAdd, Nat.reduceSub, Nat.zero_add, Bool.false_eq_true, reduceIte, lenN, lenM, minN, maxN, List.length_map, eN, rng1I, hr, Int.toNat_natCast, forS, e, lcD, wipeE, lstM, anyI, List.getElem?_concat_length, e2, allN, ab]
end K11
end L2
end
theorem PySem.Challenge.cw_lastremains_k11_whole_words_of_programs_holds : PySem.Challenge.rw_lastremains_k11_whole_words_of_programs.Holds := by
  exact L2.K11.holds_of fun ns _ => L2.K11.law_spec (F := L2.K11.fuel) (k := 6) (by decide)
