import PyProof.Rows.All
import Wide.All
import OpenK.AllK
import Wide.FinOn
import HandS.Small
import HandS.ForMost
import HandS.Exc
import HandS.TryOnly
import HandS.ExcOwn
import HandS.WordsExc
import HandS.IsInst
import HandS.Wide
import HandS.TupAny
import HandS.Flow
import HandS.RaiseMore
import HandS.Deep
import HandS.EndBits
import HandS.Style
import HandS.ExcIs
import HandS.ExcInit
import HandS.NestedK
import HandS.ExcInitHot
import HandS.SuiteRaise
import HandS.ExcField
import HandS.FStr
import KE.KExcIs
import KE.KExcSuper
import HandS.AnyAll
import HandS.EndTab
import KE.GoesMore
import HandS.Steps
import HandS.Walk
import KE.KNestM
import PySem.Challenge.RW_recstore_k30_journal_refused
set_option Elab.async false
set_option linter.all false
set_option maxRecDepth 100000
set_option maxHeartbeats 8000000
namespace Rs
open PySem PySem.Spec PyProof.Rows L2

/-! ### what is known of a heap: a ledger -/
mutual
/-- data that never changes -/
inductive Im (K : PySem.W.Frag) (H : Hp) : V → PyData → Prop
  | non : Im K H .non .none
  | bl (b : Bool) : Im K H (.bl b) (.bool b)
  | int (i : Int) : Im K H (.int i) (.int i)
  | str (x : Str) : Im K H (.str x) (.str x)
  | tup {a : Addr} {xs : List V} {ds : List PyData} : SqT K H a xs → Ims K H xs ds → Im K H (.ref a) (.tuple ds)
inductive Ims (K : PySem.W.Frag) (H : Hp) : List V → List PyData → Prop
  | nil : Ims K H [] []
  | cons {v : V} {vs : List V} {d : PyData} {ds : List PyData} : Im K H v d → Ims K H vs ds → Ims K H (v :: vs) (d :: ds)
end
/-- an entry: a thing, or a list of data that never changes -/
inductive Ent | raw (o : HO) | dl (ds : List PyData)
def EntAt (K : PySem.W.Frag) (H : Hp) (a : Addr) : Ent → Prop
  | .raw o => H a = some o
  | .dl ds => ∃ xs, H a = some (.lst xs) ∧ Ims K H xs ds
/-- all is as it was, but at S -/
def KBs (H H' : Hp) (S : List Addr) : Prop := ∀ b o, H b = some o → b ∉ S → H' b = some o
/-- no tuple stands at S -/
def NoT (H : Hp) (S : List Addr) : Prop := ∀ a ∈ S, ∀ xs, H a ≠ some (.tup xs) ∧ ∀ o, H a ≠ some (.frz o (.tup xs))
section
variable {K : PySem.W.Frag} {H H' : Hp} {S : List Addr}
theorem KBs.refl : KBs H H S := fun _ _ h _ => h
theorem KBs.trans {H1 H2 : Hp} (a : KBs H H1 S) (b : KBs H1 H2 S) : KBs H H2 S := fun c o h n => b c o (a c o h n) n
theorem KBs.mono {T : List Addr} (a : KBs H H' S) (h : ∀ x ∈ S, x ∈ T) : KBs H H' T := fun c o e n => a c o e fun m => n (h c m)
theorem KBs.of (a : Same H H') : KBs H H' S := fun c o e _ => a c o e
theorem KBs.same (a : KBs H H' []) : Same H H' := fun c o e => a c o e (by simp)
theorem sqT_keep {a : Addr} {xs : List V} (k : KBs H H' S) (n : NoT H S) (h : SqT K H a xs) : SqT K H' a xs := by
  rcases h with (h | ⟨o, h⟩) | h
  · refine .inl (.inl (k _ _ h fun m => ?_))
    exact (n a m xs).1 h
  · refine .inl (.inr ⟨o, k _ _ h fun m => ?_⟩)
    exact (n a m xs).2 o h
  · exact .inr h

mutual
theorem Im.keep (k : KBs H H' S) (n : NoT H S) : ∀ {v : V} {d : PyData}, Im K H v d → Im K H' v d
  | _, _, .non => .non
  | _, _, .bl b => .bl b
  | _, _, .int i => .int i
  | _, _, .str x => .str x
  | _, _, .tup h hs => .tup (sqT_keep k n h) (Ims.keep k n hs)
theorem Ims.keep (k : KBs H H' S) (n : NoT H S) : ∀ {vs : List V} {ds : List PyData}, Ims K H vs ds → Ims K H' vs ds
  | _, _, .nil => .nil
  | _, _, .cons h hs => .cons (Im.keep k n h) (Ims.keep k n hs)
end
theorem NoT.nil : NoT H [] := fun _ h => by cases h
theorem Im.same (k : Same H H') {v : V} {d : PyData} (h : Im K H v d) : Im K H' v d := Im.keep (S := []) (KBs.of k) NoT.nil h
theorem Ims.same (k : Same H H') {v : List V} {d : List PyData} (h : Ims K H v d) : Ims K H' v d := Ims.keep (S := []) (KBs.of k) NoT.nil h
theorem Ims.len : ∀ {vs : List V} {ds : List PyData}, Ims K H vs ds → vs.length = ds.length
  | _, _, .nil => rfl
  | _, _, .cons _ h => by rw [List.length_cons, List.length_cons, Ims.len h]
theorem Ims.get : ∀ {vs : List V} {ds : List PyData} {i : Nat} {v : V}, Ims K H vs ds → vs[i]? = some v → ∃ d, ds[i]? = some d ∧ Im K H v d
  | _, _, i, v, .nil, e => by simp at e
  | _, _, 0, v, .cons h _, e => by
    have e' := Option.some.inj e
    subst e'
    exact ⟨_, rfl, h⟩
  | _, _, i + 1, v, .cons _ h, e => Ims.get (i := i) h e
theorem Ims.get' : ∀ {vs : List V} {ds : List PyData} {i : Nat} {d : PyData}, Ims K H vs ds → ds[i]? = some d → ∃ v, vs[i]? = some v ∧ Im K H v d
  | _, _, i, v, .nil, e => by simp at e
  | _, _, 0, v, .cons h _, e => by
    have e' := Option.some.inj e
    subst e'
    exact ⟨_, rfl, h⟩
  | _, _, i + 1, v, .cons _ h, e => Ims.get' (i := i) h e
theorem Ims.app : ∀ {vs ws : List V} {ds es : List PyData}, Ims K H vs ds → Ims K H ws es → Ims K H (vs ++ ws) (ds ++ es)
  | _, _, _, _, .nil, h => h
  | _, _, _, _, .cons a b, h => .cons a (Ims.app b h)
theorem Ims.one {v : V} {d : PyData} (h : Im K H v d) : Ims K H [v] [d] := .cons h .nil
theorem Ims.ints : ∀ {vs : List V} {ns : List Int}, Ims K H vs (ns.map PyData.int) → vs = ns.map V.int
  | _, [], .nil => rfl
  | _, n :: ns, .cons h t => by
    cases h
    rw [Ims.ints t]
    rfl
theorem Ims.of_ints : ∀ ns : List Int, Ims K H (ns.map V.int) (ns.map PyData.int)
  | [] => .nil
  | n :: ns => .cons (.int n) (Ims.of_ints ns)
theorem Ims.take (n : Nat) : ∀ {vs : List V} {ds : List PyData}, Ims K H vs ds → Ims K H (vs.take n) (ds.take n) := by
  induction n with
  | zero => intro vs ds _; exact .nil
  | succ n ih =>
    intro vs ds h
    cases h with
    | nil => exact .nil
    | cons a b => exact .cons a (ih b)
theorem Ims.drop (n : Nat) : ∀ {vs : List V} {ds : List PyData}, Ims K H vs ds → Ims K H (vs.drop n) (ds.drop n) := by
  induction n with
  | zero => intro vs ds h; exact h
  | succ n ih =>
    intro vs ds h
    cases h with
    | nil => exact .nil
    | cons a b => exact ih b
mutual
theorem Im.dp : ∀ {v : V} {d : PyData}, Im K H v d → Dp K H v d
  | _, _, .non => .non
  | _, _, .bl b => .bl b
  | _, _, .int i => .int i
  | _, _, .str x => .str x
  | _, _, .tup h hs => .tup h (Ims.dp hs)
theorem Ims.dp : ∀ {vs : List V} {ds : List PyData}, Ims K H vs ds → DpAll K H vs ds
  | _, _, .nil => .nil
  | _, _, .cons h hs => .cons (Im.dp h) (Ims.dp hs)
end
/-- what the entry tells stays -/
theorem EntAt.keep {a : Addr} {e : Ent} (k : KBs H H' S) (n : NoT H S) (ha : a ∉ S) (h : EntAt K H a e) : EntAt K H' a e := by
  cases e with
  | raw o => exact k _ _ h ha
  | dl ds =>
    obtain ⟨xs, h1, h2⟩ := h
    exact ⟨xs, k _ _ h1 ha, h2.keep k n⟩
theorem EntAt.some {a : Addr} {e : Ent} (h : EntAt K H a e) : ∃ o, H a = some o := by
  cases e with
  | raw o => exact ⟨o, h⟩
  | dl ds =>
    obtain ⟨xs, h1, _⟩ := h
    exact ⟨_, h1⟩
end

/-- the ledger: H0 the heap at the entry, S what may have changed of it since; L: what is known of lists and objects, I: of data -/
structure Led (K : PySem.W.Frag) (H0 : Hp) (S : List Addr) (H : Hp) (L : List (Addr × Ent)) (I : List (V × PyData)) : Prop where
  nd : (L.map (·.1)).Nodup
  at_ : ∀ (n : Nat) a e, L[n]? = some (a, e) → EntAt K H a e
  im : ∀ (n : Nat) v d, I[n]? = some (v, d) → Im K H v d
  kp : KBs H0 H S
section
variable {K : PySem.W.Frag} {H0 H H' : Hp} {S : List Addr} {L : List (Addr × Ent)} {I : List (V × PyData)}
theorem Led.start : Led K H S H [] [] := ⟨List.nodup_nil, fun n a e h => by simp at h, fun n v d h => by simp at h, KBs.refl⟩
theorem Led.raw (h : Led K H0 S H L I) (n : Nat) {a : Addr} {o : HO} (e : L[n]? = some (a, .raw o)) : H a = some o := h.at_ n a _ e
/-- fresh now is fresh at the entry -/
theorem fresh0 (h : KBs H0 H S) {p : Addr} (hs : p ∉ S) (e : H p = none) : H0 p = none := by
  cases q : H0 p with
  | none => rfl
  | some o =>
    rw [h p o q hs] at e
    cases e
theorem Led.notin (h : Led K H0 S H L I) {p : Addr} (e : H p = none) : p ∉ L.map (·.1) := fun m => by
  obtain ⟨⟨a, x⟩, h1, h2⟩ := List.mem_map.mp m
  obtain ⟨n, hn, h3⟩ := List.getElem_of_mem h1
  have h4 : L[n]? = some (a, x) := by rw [List.getElem?_eq_getElem hn, h3]
  obtain ⟨o, h5⟩ := (h.at_ n a x h4).some
  have h6 : a = p := h2
  subst h6
  rw [h5] at e
  cases e
theorem Led.same (h : Led K H0 S H L I) (k : Same H H') : Led K H0 S H' L I :=
  ⟨h.nd, fun n a e q => (h.at_ n a e q).keep (S := []) (KBs.of k) NoT.nil (by simp), fun n v d q => (h.im n v d q).same k, h.kp.trans (KBs.of k)⟩
/-- a new entry -/
theorem Led.new (h : Led K H0 S H L I) (k : Same H H') {p : Addr} {e : Ent} (hn : H p = none) (he : EntAt K H' p e) : Led K H0 S H' ((p, e) :: L) I := by
  have h1 := h.same k
  refine ⟨?_, fun n a x q => ?_, h1.im, h1.kp⟩
  · rw [List.map_cons, List.nodup_cons]
    exact ⟨h.notin hn, h.nd⟩
  · cases n with
    | zero =>
      have q' := Option.some.inj q
      cases q'
      exact he
    | succ n => exact h1.at_ n a x q
theorem same_new {p : Addr} {o : HO} (h : H p = none) : Same H (upd H p o) := fun b x e => by
  rw [upd_ne (ne_of_none e h)]
  exact e
theorem Led.alloc (h : Led K H0 S H L I) {p : Addr} {o : HO} (hn : H p = none) : Led K H0 S (upd H p o) ((p, .raw o) :: L) I := h.new (same_new hn) hn upd_same
theorem Led.allocD (h : Led K H0 S H L I) {p : Addr} {xs : List V} {ds : List PyData} (hn : H p = none) (hd : Ims K H xs ds) : Led K H0 S (upd H p (.lst xs)) ((p, .dl ds) :: L) I :=
  h.new (same_new hn) hn ⟨xs, upd_same, hd.same (same_new hn)⟩
/-- a new fact on data -/
theorem Led.imNew (h : Led K H0 S H L I) {v : V} {d : PyData} (hi : Im K H v d) : Led K H0 S H L ((v, d) :: I) :=
  ⟨h.nd, h.at_, fun n x y q => by
    cases n with
    | zero =>
      have q' := Option.some.inj q
      cases q'
      exact hi
    | succ n => exact h.im n x y q, h.kp⟩
theorem Led.allocT (h : Led K H0 S H L I) {p : Addr} {xs : List V} {ds : List PyData} (hn : H p = none) (hd : Ims K H xs ds) : Led K H0 S (upd H p (.tup xs)) L ((.ref p, .tuple ds) :: I) :=
  (h.same (same_new hn)).imNew (.tup (SqT.of upd_same) (hd.same (same_new hn)))
def isMut : HO → Bool
  | .tup _ => false
  | .frz _ _ => false
  | _ => true
theorem NoT.one {a : Addr} {o : HO} (h : H a = some o) (hm : isMut o = true) : NoT H [a] := fun b hb xs => by
  have e : b = a := by simpa using hb
  subst e
  refine ⟨fun q => ?_, fun u q => ?_⟩
  · rw [h] at q
    cases q
    exact Bool.false_ne_true hm
  · rw [h] at q
    cases q
    exact Bool.false_ne_true hm
/-- the n-th entry changes -/
theorem Led.wr (h : Led K H0 S H L I) (n : Nat) {a : Addr} {e e' : Ent} {o : HO} (q : L[n]? = some (a, e)) (k : KBs H H' [a]) (ho : H a = some o) (hm : isMut o = true) (he : EntAt K H' a e') (hs : H0 a = none ∨ a ∈ S) : Led K H0 S H' (L.set n (a, e')) I := by
  have hN := NoT.one ho hm
  have hn : n < L.length := (List.getElem?_eq_some_iff.mp q).1
  refine ⟨?_, fun m b x r => ?_, fun m v d r => (h.im m v d r).keep k hN, fun b x r hb => ?_⟩
  · have e2 : (L.set n (a, e')).map (·.1) = L.map (·.1) := by
      rw [List.map_set]
      refine List.ext_getElem? fun i => ?_
      by_cases hi : n = i
      · subst hi
        rw [List.getElem?_set_self (by rw [List.length_map]; exact hn), List.getElem?_map, q]
        rfl
      · rw [List.getElem?_set_ne hi]
    rw [e2]
    exact h.nd
  · by_cases hm' : n = m
    · subst hm'
      rw [List.getElem?_set_self hn] at r
      cases r
      exact he
    · rw [List.getElem?_set_ne hm'] at r
      refine (h.at_ m b x r).keep k hN fun hb => ?_
      have e3 : b = a := by simpa using hb
      subst e3
      have r1 : (L.map (·.1))[m]? = some b := by
        rw [List.getElem?_map, r]
        rfl
      have r2 : (L.map (·.1))[n]? = some b := by
        rw [List.getElem?_map, q]
        rfl
      exact hm' (nd_ix h.nd r2 r1)
  · refine k b x (h.kp b x r hb) fun z => ?_
    have e3 : b = a := by simpa using z
    subst e3
    rcases hs with hs | hs
    · rw [r] at hs
      cases hs
    · exact hb hs
/-- entries that are no longer wanted -/
theorem Led.take (h : Led K H0 S H L I) (L' : List (Addr × Ent)) (I' : List (V × PyData)) (f : List Nat) (g : List Nat) (hf : f.Nodup) (h1 : L'.length = f.length) (h2 : ∀ (i n : Nat), f[i]? = some n → L'[i]? = L[n]?) (h3 : I'.length = g.length) (h4 : ∀ (i n : Nat), g[i]? = some n → I'[i]? = I[n]?) : Led K H0 S H L' I' := by
  have nth : ∀ (i : Nat) a e, L'[i]? = some (a, e) → ∃ n, f[i]? = some n ∧ L[n]? = some (a, e) := fun i a e q => by
    have hi : i < f.length := by rw [← h1]; exact (List.getElem?_eq_some_iff.mp q).1
    refine ⟨f[i], List.getElem?_eq_getElem hi, ?_⟩
    rw [← h2 i f[i] (List.getElem?_eq_getElem hi)]
    exact q
  refine ⟨?_, fun i a e q => ?_, fun i v d q => ?_, h.kp⟩
  · refine List.pairwise_iff_getElem.mpr fun i j hi' hj' hij e => ?_
    have hi : i < L'.length := by rw [← List.length_map (f := (·.1))]; exact hi'
    have hj : j < L'.length := by rw [← List.length_map (f := (·.1))]; exact hj'
    obtain ⟨n, fn, ln⟩ := nth i L'[i].1 L'[i].2 (List.getElem?_eq_getElem hi)
    obtain ⟨m, fm, lm⟩ := nth j L'[j].1 L'[j].2 (List.getElem?_eq_getElem hj)
    have ea : L'[i].1 = L'[j].1 := by
      rw [List.getElem_map, List.getElem_map] at e
      exact e
    have r1 : (L.map (·.1))[n]? = some L'[i].1 := by
      rw [List.getElem?_map, ln]
      rfl
    have r2 : (L.map (·.1))[m]? = some L'[i].1 := by
      rw [List.getElem?_map, lm, ea]
      rfl
    have en := nd_ix h.nd r1 r2
    subst en
    exact absurd (nd_ix hf fn fm) (Nat.ne_of_lt hij)
  · obtain ⟨n, _, ln⟩ := nth i a e q
    exact h.at_ n a e ln
  · have hi : i < g.length := by rw [← h3]; exact (List.getElem?_eq_some_iff.mp q).1
    have q2 := h4 i g[i] (List.getElem?_eq_getElem hi)
    rw [q] at q2
    exact h.im _ v d q2.symm
end

abbrev RCall := List V → Hp → VK → Prop
abbrev RSl := V → Option Int → Option Int → Hp → VK → Prop
abbrev RMt := V → List V → Hp → VK → Prop
theorem u65 {k : Nat} {A : Around} (r : Room k A) : A.units + 65 < cLine := by have := r.un; omega

/-! ### readings that compute -/
def lk : L2.St → Nat → Option V
  | [], _ => none
  | x :: _, 0 => x
  | _ :: σ, n + 1 => lk σ n
theorem lk_get : ∀ {σ : L2.St} {i : Nat} {v : V}, lk σ i = some v → σ[i]? = some (some v)
  | [], _, _, h => nomatch h
  | x :: _, 0, v, h => by
    have h' : x = some v := h
    rw [h']
    rfl
  | _ :: σ, n + 1, v, h => lk_get (σ := σ) (i := n) h
def mV (i : Nat) : TE := fun σ H Q => match lk σ i with
  | some v => Q v H
  | none => False
theorem mV_ok {i : Nat} {σ : L2.St} {H : Hp} {Q : VK} (h : mV i σ H Q) : tVar i σ H Q := by
  unfold mV at h
  cases e : lk σ i with
  | none => rw [e] at h; exact h.elim
  | some v => rw [e] at h; exact ⟨v, lk_get e, h⟩
def rOr (r s : R2) : R2 := fun x y H Q => r x y H Q ∨ s x y H Q
/-- two ints -/
def mI (c : Int → Int → Prop) (f : Int → Int → V) : R2 := fun x y H Q => match x, y with
  | .int i, .int j => c i j ∧ Q (f i j) H
  | _, _ => False
def mI0 (f : Int → Int → V) : R2 := fun x y H Q => match x, y with
  | .int i, .int j => Q (f i j) H
  | _, _ => False
def hAdd (K : PySem.W.Frag) : R2 := fun x y H Q => rCat x y H Q ∨ rCatA K x y H Q
def mAdd (K : PySem.W.Frag) : R2 := fun x y H Q => match x, y with
  | .int i, .int j => Q (.int (i + j)) H
  | .str a, .str b => a.length + b.length ≤ sizeLine ∧ Q (.str (a ++ b)) H
  | .ref a, .ref b => hAdd K (.ref a) (.ref b) H Q
  | _, _ => False
def mSub : R2 := mI0 fun i j => .int (i - j)
def mMul : R2 := fun x y H Q => match x, y with
  | .int i, .int j => CMul i j ∧ Q (.int (i * j)) H
  | .ref a, .int j => rRep (.ref a) (.int j) H Q
  | _, _ => False
def mFdiv : R2 := mI CDivW fun i j => .int (i / j)
def mMod : R2 := mI (fun _ j => 0 < j) fun i j => .int (i % j)
def mPow : R2 := mI CPow fun i j => .int (i ^ j.toNat)
def mShl : R2 := mI CPow fun i j => .int (i * 2 ^ j.toNat)
def mShr : R2 := mI (fun _ j => 0 ≤ j) fun i j => .int (i / 2 ^ j.toNat)
def mLt : R2 := mI0 fun i j => .bl (decide (i < j))
def mLe : R2 := mI0 fun i j => .bl (decide (i ≤ j))
def mGt : R2 := mI0 fun i j => .bl (decide (j < i))
def mGe : R2 := mI0 fun i j => .bl (decide (j ≤ i))
def hEq (K : PySem.W.Frag) : R2 := rOr rEq (rEqD K)
def mEq (K : PySem.W.Frag) : R2 := fun x y H Q => match x, y with
  | .int i, .int j => Q (.bl (decide (i = j))) H
  | .str i, .str j => Q (.bl (decide (i = j))) H
  | .bl i, .bl j => Q (.bl (decide (i = j))) H
  | .non, .non => Q (.bl true) H
  | .str _, .non => Q (.bl false) H
  | .int _, .non => Q (.bl false) H
  | .non, .str _ => Q (.bl false) H
  | .non, .int _ => Q (.bl false) H
  | x, y => hEq K x y H Q
def hNe (K : PySem.W.Frag) : R2 := rOr rNe (rNeD K)
def mNe (K : PySem.W.Frag) : R2 := fun x y H Q => match x, y with
  | .int i, .int j => Q (.bl (!decide (i = j))) H
  | .str i, .str j => Q (.bl (!decide (i = j))) H
  | .bl i, .bl j => Q (.bl (!decide (i = j))) H
  | .non, .non => Q (.bl false) H
  | .str _, .non => Q (.bl true) H
  | .int _, .non => Q (.bl true) H
  | .non, .str _ => Q (.bl true) H
  | .non, .int _ => Q (.bl true) H
  | x, y => hNe K x y H Q
def mIsN : R2 := fun x y H Q => match y with
  | .non => Q (.bl (match x with | .non => true | _ => false)) H
  | _ => False
def mNotN : R2 := fun x y H Q => match y with
  | .non => Q (.bl (match x with | .non => false | _ => true)) H
  | _ => False
def mNeg : V → Hp → VK → Prop := fun x H Q => match x with
  | .int i => Q (.int (-i)) H
  | _ => False
/-- a Bool is wanted -/
def toB (Q : Bool → Hp → Prop) (x : V) (H : Hp) : Prop := match x with
  | .bl b => Q b H
  | _ => False
def mTest (t : TE) : TT := fun σ H Q => t σ H (toB Q)
def hTru (K : PySem.W.Frag) (x : V) (H : Hp) (Q : Bool → Hp → Prop) : Prop := ∃ k, TruV K x H k ∧ Q k H
def mTr (K : PySem.W.Frag) (t : TE) : TT := fun σ H Q => t σ H fun x H1 => match x with
  | .bl b => Q b H1
  | .int i => Q (i != 0) H1
  | .non => Q false H1
  | x => hTru K x H1 Q
def toV (Q : Bool → Hp → Prop) : VK := fun x H => match x with
  | .bl b => Q b H
  | _ => False
def mAndV (ta tb : TE) : TE := fun σ H Q => ta σ H (toB fun c H1 => if c = true then tb σ H1 Q else Q (.bl false) H1)
def mOrV (ta tb : TE) : TE := fun σ H Q => ta σ H (toB fun c H1 => if c = true then Q (.bl true) H1 else tb σ H1 Q)
def mNotV (ta : TE) : TE := fun σ H Q => ta σ H (toB fun c H1 => Q (.bl (!c)) H1)
def mInt : RCall := fun xs H Q => match xs with
  | [.int i] => Q (.int i) H
  | [.bl b] => Q (.int (if b then 1 else 0)) H
  | _ => False
def mPart (t : TE) : TO := fun σ H Q => t σ H fun x H1 => match x with
  | .int i => Q (some i) H1
  | _ => False
/-- an if, its test known: the ways -/
def Br (b : Bool) (t u : TS) (D : Ends) (σ : L2.St) (H : Hp) : Prop := if b = true then t D σ H else u D σ H
def BrE (b : Bool) (t u : TE) (Q : VK) (σ : L2.St) (H : Hp) : Prop := if b = true then t σ H Q else u σ H Q
def mIf (c : TT) (t u : TS) : TS := fun D σ H => c σ H fun b H1 => Br b t u D σ H1
def mIfE (c : TT) (t u : TE) : TE := fun σ H Q => c σ H fun b H1 => BrE b t u Q σ H1
def mAug (i : Nat) (te : TE) (r : R2) : TS := fun D σ H => match lk σ i with
  | some x => te σ H fun y H1 => r x y H1 fun z H2 => D.nx (σ.set i (some z)) H2
  | none => False
def uSl (K : PySem.W.Frag) : RSl := fun x lo hi H Q => rSlL K x lo hi H Q ∨ rSlA K x lo hi H Q ∨ rSlS x lo hi H Q
def uIn (K : PySem.W.Frag) : R2 := rOr (rIn K false) (rInD K)
def uNin (K : PySem.W.Frag) : R2 := rOr (rIn K true) (rNotInD K)
def hLen (K : PySem.W.Frag) : RCall := fun xs H Q => ∃ x n, xs = [x] ∧ LenV K x H n ∧ Q (.int (n : Nat)) H
def hListOf (K : PySem.W.Frag) : RCall := fun xs H Q => ∃ p ys, xs = [.ref p] ∧ (SqL K H p ys ∨ SqT K H p ys) ∧ ∀ l, H l = none → Q (.ref l) (upd H l (.lst ys))
def hTupOf (K : PySem.W.Frag) : RCall := fun xs H Q => ∃ p ys, xs = [.ref p] ∧ ((SqL K H p ys ∧ ∀ l, H l = none → Q (.ref l) (upd H l (.tup ys))) ∨ (SqT K H p ys ∧ Q (.ref p) H))
/-- repr of data -/
def hRepr (K : PySem.W.Frag) : RCall := fun xs H Q => ∃ x d, xs = [x] ∧ Dp K H x d ∧ d.showable = true ∧ d.hasDict = false ∧ d.depth ≤ 60 ∧ d.shown.length ≤ sizeLine ∧ Q (.str d.shown) H
def mAbs : RCall := fun xs H Q => match xs with
  | [.int i] => Q (.int (if i < 0 then -i else i)) H
  | _ => False

/-! ### their rules -/
section
variable {X : Cx}
theorem PE.weak {e : Expr} {t t' : TE} (h : PE X e t) (w : ∀ σ H Q, t' σ H Q → t σ H Q) : PE X e t' := ⟨fun pins s σ H Q I hw => h.run pins s σ H Q I (w σ H Q hw)⟩
theorem PT.weak {e : Expr} {t t' : TT} (h : PT X e t) (w : ∀ σ H Q, t' σ H Q → t σ H Q) : PT X e t' := ⟨fun pins s σ H Q I hw => h.run pins s σ H Q I (w σ H Q hw)⟩
theorem PS.weak {st : Stmt} {t t' : TS} (h : PS X st t) (w : ∀ D σ H, t' D σ H → t D σ H) : PS X st t' := ⟨fun pins s σ H D I hw => h.run pins s σ H D I (w D σ H hw)⟩
theorem OpR.weak {f : Value → Value → Sem Value} {r r' : R2} (h : OpR X f r) (w : ∀ x y H Q, r' x y H Q → r x y H Q) : OpR X f r' := fun pins s σ H x y v u Q I a b hw => h pins s σ H x y v u Q I a b (w x y H Q hw)
theorem OpR.or {f : Value → Value → Sem Value} {r s : R2} (h1 : OpR X f r) (h2 : OpR X f s) : OpR X f (rOr r s) := fun pins sh σ H x y v u Q I a b h => h.elim (h1 pins sh σ H x y v u Q I a b) (h2 pins sh σ H x y v u Q I a b)
theorem CallR.weak {f : Value} {r r' : RCall} (h : CallR X f r) (w : ∀ xs H Q, r' xs H Q → r xs H Q) : CallR X f r' := fun pins s σ H xs us Q I a hw => h pins s σ H xs us Q I a (w xs H Q hw)
theorem SlR.or {r s : RSl} (h1 : SlR X r) (h2 : SlR X s) : SlR X (fun x lo hi H Q => r x lo hi H Q ∨ s x lo hi H Q) := fun pins sh σ H x v vl vu lo hi sl Q I rx hs pl pu h =>
  h.elim (h1 pins sh σ H x v vl vu lo hi sl Q I rx hs pl pu) (h2 pins sh σ H x v vl vu lo hi sl Q I rx hs pl pu)
/-- the name in slot i -/
theorem pn (i : Nat) {x : Str} {pos : Pos} (hN : X.N[i]? = some x := by rfl) (hv : Vis X.env.scope x := by first | exact Or.inl rfl | exact Or.inr (Or.inl rfl) | exact Or.inr (Or.inr rfl)) (hd : (x == ("__debug__" : Str)) = false := by decide)
    (hcd : (x == ("__classdict__" : Str)) = false := by decide) : PE X (.Name x pos) (mV i) := PE.weak (pe_var hN hv hd hcd) fun _ _ _ h => mV_ok h
theorem mI_ok {c : Int → Int → Prop} {f : Int → Int → V} {x y : V} {H : Hp} {Q : VK} (h : mI c f x y H Q) : rI c f x y H Q := by
  cases x <;> cases y <;> first | exact h.elim | exact ⟨_, _, rfl, rfl, h.1, h.2⟩
theorem mI0_ok {f : Int → Int → V} {x y : V} {H : Hp} {Q : VK} (h : mI0 f x y H Q) : rI0 f x y H Q := by
  cases x <;> cases y <;> first | exact h.elim | exact ⟨_, _, rfl, rfl, h⟩
theorem o_add : OpR X (binaryOp .Add) (mAdd X.K) := OpR.weak (OpR.or op_add (OpR.or op_add_str (OpR.or op_cat op_catA))) fun x y H Q h => by
  cases x <;> cases y <;> first | exact h.elim | exact .inl ⟨_, _, rfl, rfl, h⟩ | exact .inr (.inl ⟨_, _, rfl, rfl, h.1, h.2⟩) | exact .inr (.inr h)
theorem o_sub : OpR X (binaryOp .Sub) mSub := OpR.weak op_sub fun _ _ _ _ h => mI0_ok h
theorem o_mul : OpR X (binaryOp .Mult) mMul := OpR.weak (OpR.or op_mul op_rep) fun x y H Q h => by
  cases x <;> cases y <;> first | exact h.elim | exact .inl ⟨_, _, rfl, rfl, h.1, h.2⟩ | exact .inr h
theorem o_fdiv : OpR X (binaryOp .FloorDiv) mFdiv := OpR.weak op_fdivW fun _ _ _ _ h => mI_ok h
theorem o_mod : OpR X (binaryOp .Mod) mMod := OpR.weak op_mod fun _ _ _ _ h => mI_ok h
theorem o_pow : OpR X (binaryOp .Pow) mPow := OpR.weak op_pow fun _ _ _ _ h => mI_ok h
theorem o_shl : OpR X (binaryOp .LShift) mShl := OpR.weak op_shl fun _ _ _ _ h => mI_ok h
theorem o_shr : OpR X (binaryOp .RShift) mShr := OpR.weak op_shr fun _ _ _ _ h => mI_ok h
theorem o_lt : OpR X (compareOp .Lt) mLt := OpR.weak op_lt fun _ _ _ _ h => mI0_ok h
theorem o_le : OpR X (compareOp .LtE) mLe := OpR.weak op_le fun _ _ _ _ h => mI0_ok h
theorem o_gt : OpR X (compareOp .Gt) mGt := OpR.weak op_gt fun _ _ _ _ h => mI0_ok h
theorem o_ge : OpR X (compareOp .GtE) mGe := OpR.weak op_ge fun _ _ _ _ h => mI0_ok h
theorem dec_of {α β : Type} [DecidableEq α] [DecidableEq β] (f : α → β) (inj : ∀ a b, f a = f b → a = b) (a b : α) : decide (f a = f b) = decide (a = b) := by
  by_cases h : a = b
  · rw [h, decide_eq_true rfl, decide_eq_true rfl]
  · rw [decide_eq_false h, decide_eq_false fun e => h (inj a b e)]
theorem o_eq (hu : X.A.units + 64 < cLine) : OpR X (compareOp .Eq) (mEq X.K) := OpR.weak (OpR.or op_eq (op_eqD hu)) fun x y H Q h => by
  cases x <;> cases y <;>
    first
      | exact h
      | exact .inl ⟨rfl, by rw [dec_of V.int fun a b e => V.int.inj e]; exact h⟩
      | exact .inl ⟨rfl, by rw [dec_of V.str fun a b e => V.str.inj e]; exact h⟩
      | exact .inl ⟨rfl, by rw [dec_of V.bl fun a b e => V.bl.inj e]; exact h⟩
      | exact .inl ⟨rfl, h⟩
theorem o_ne (hu : X.A.units + 64 < cLine) : OpR X (compareOp .NotEq) (mNe X.K) := OpR.weak (OpR.or op_ne (op_neD hu)) fun x y H Q h => by
  cases x <;> cases y <;>
    first
      | exact h
      | exact .inl ⟨rfl, by rw [dec_of V.int fun a b e => V.int.inj e]; exact h⟩
      | exact .inl ⟨rfl, by rw [dec_of V.str fun a b e => V.str.inj e]; exact h⟩
      | exact .inl ⟨rfl, by rw [dec_of V.bl fun a b e => V.bl.inj e]; exact h⟩
      | exact .inl ⟨rfl, h⟩
theorem o_isN : OpR X (compareOp .Is) mIsN := OpR.weak op_isN fun x y H Q h => by
  cases y <;> first | exact h.elim | (refine ⟨rfl, ?_⟩; cases x <;> exact h)
theorem o_notN : OpR X (compareOp .IsNot) mNotN := OpR.weak op_notN fun x y H Q h => by
  cases y <;> first | exact h.elim | (refine ⟨rfl, ?_⟩; cases x <;> exact h)
theorem o_in (hu : X.A.units + 65 < cLine) : OpR X (compareOp .In) (uIn X.K) := OpR.or op_in_seq (op_inD hu)
theorem o_nin (hu : X.A.units + 65 < cLine) : OpR X (compareOp .NotIn) (uNin X.K) := OpR.or op_notIn_seq (op_notInD hu)
theorem o_neg : UnR X (unaryOp .USub) mNeg := fun pins s σ H x v Q I r h => un_neg pins s σ H x v Q I r (by
  cases x <;> first | exact h.elim | exact ⟨_, rfl, h⟩)
theorem o_sl : SlR X (uSl X.K) := SlR.or sl_list (SlR.or sl_tupA sl_str)
theorem toB_ok {Q : Bool → Hp → Prop} {x : V} {H : Hp} (h : toB Q x H) : ∃ k, x = .bl k ∧ Q k H := by
  cases x <;> first | exact h.elim | exact ⟨_, rfl, h⟩
theorem toB_eq (Q : Bool → Hp → Prop) : toB Q = fun x H => ∃ k, x = .bl k ∧ Q k H := by
  funext x H
  refine propext ⟨toB_ok, fun h => ?_⟩
  obtain ⟨k, rfl, q⟩ := h
  exact q
theorem m_test {e : Expr} {t : TE} (h : PT X e (tTest t)) : PT X e (mTest t) := PT.weak h fun σ H Q q => by
  unfold mTest at q
  rw [toB_eq] at q
  exact q
theorem tru_eq {K : PySem.W.Frag} (Q : Bool → Hp → Prop) : (fun (x : V) (H1 : Hp) => match x with
  | .bl b => Q b H1
  | .int i => Q (i != 0) H1
  | .non => Q false H1
  | x => hTru K x H1 Q) = fun x H' => ∃ k, TruV K x H' k ∧ Q k H' := by
  funext x H
  refine propext ?_
  cases x <;>
    first
      | exact Iff.rfl
      | exact ⟨fun h => ⟨_, rfl, h⟩, fun ⟨k, e, q⟩ => by cases (show k = _ from e); exact q⟩
theorem p_truth {a : Expr} {ta : TE} (h : PE X a ta) (he : ∀ whole, isTrue a X.env whole = (do let v ← whole; standAt a.pos; holding [v] (truthy v))) : PT X a (mTr X.K ta) := PT.weak (pt_truth h he) fun σ H Q q => by
  unfold mTr at q
  rw [tru_eq] at q
  exact q
theorem p_or {op : BoolOp} {a b : Expr} {rest : List Expr} {ta tb : TE} {pos : Pos} (ha : PE X a ta) (hb : PE X (.BoolOp .Or (b :: rest) pos) tb) : PE X (.BoolOp .Or (a :: b :: rest) pos) (mOrV ta tb) := PE.weak (pe_or ha hb) fun σ H Q q => by
  unfold mOrV at q
  rw [toB_eq] at q
  exact q
theorem p_and {a b : Expr} {rest : List Expr} {ta tb : TE} {pos : Pos} (ha : PE X a ta) (hb : PE X (.BoolOp .And (b :: rest) pos) tb) : PE X (.BoolOp .And (a :: b :: rest) pos) (mAndV ta tb) := PE.weak (pe_and ha hb) fun σ H Q q => by
  unfold mAndV at q
  rw [toB_eq] at q
  exact q
theorem p_not {a : Expr} {ta : TE} {pos : Pos} (ha : PE X a ta) : PE X (.UnaryOp .Not a pos) (mNotV ta) := PE.weak (pe_not ha) fun σ H Q q => by
  unfold mNotV at q
  rw [toB_eq] at q
  exact q
theorem p_if {c : Expr} {a b : List Stmt} {tc : TT} {t u : TS} {pos : Pos} (hc : PT X c tc) (ha : PSs X a t) (hb : PSs X b u) : PS X (.If c a b pos) (mIf tc t u) := ps_if hc ha hb
theorem p_ifE {c a b : Expr} {tA : TT} {ta tb : TE} {pos : Pos} (hc : PT X c tA) (ha : PE X a ta) (hb : PE X b tb) : PE X (.IfExp c a b pos) (mIfE tA ta tb) := pe_ifExp hc ha hb
theorem part_eq (Q : Option Int → Hp → Prop) : (fun (x : V) (H1 : Hp) => match x with
  | .int i => Q (some i) H1
  | _ => False) = fun x H1 => ∃ i, x = .int i ∧ Q (some i) H1 := by
  funext x H
  refine propext ?_
  cases x <;>
    first
      | exact ⟨fun h => ⟨_, rfl, h⟩, fun ⟨k, e, q⟩ => by cases e; exact q⟩
      | exact ⟨fun h => False.elim h, fun ⟨k, e, q⟩ => nomatch e⟩
theorem p_some {e : Expr} {t : TE} (h : PE X e t) : PO X (some e) (mPart t) := by
  have q := po_some h
  have e2 : tPart t = mPart t := by
    funext σ H Q
    unfold tPart mPart
    rw [part_eq]
  rw [e2] at q
  exact q
theorem p_aug {i : Nat} {x : Str} {op : Operator} {e : Expr} {te : TE} {r : R2} {pos pos' : Pos} (hN : X.N.Nodup) (hi : X.N[i]? = some x) (hx : Loc X.env.scope x) (he : PE X e te) (ho : PIp X op r)
    (hd : (x == ("__debug__" : Str)) = false := by decide) (hcd : (x == ("__classdict__" : Str)) = false := by decide)
    (hf : X.fn x = true ∨ X.env.scope.names.lookup x = some .local := by first | exact .inl rfl | exact .inr rfl | assumption) : PS X (.AugAssign (.Name x pos') op e pos) (mAug i te r) := PS.weak (ps_aug hN hi hx he ho (hf := hf)) fun D σ H q => by
  unfold mAug at q
  cases e2 : lk σ i with
  | none =>
    rw [e2] at q
    exact q.elim
  | some v =>
    rw [e2] at q
    exact ⟨v, lk_get e2, q⟩
def mIAdd : R2 := fun x y H Q => match x, y with
  | .int i, .int j => Q (.int (i + j)) H
  | .str a, .str b => a.length + b.length ≤ sizeLine ∧ Q (.str (a ++ b)) H
  | _, _ => False
theorem i_add : PIp X .Add mIAdd := fun pins s σ H x y v u Q I rx ry h => by
  cases x <;> cases y <;>
    first
      | exact h.elim
      | exact iop_add pins s σ H _ _ v u Q I rx ry ⟨_, _, rfl, rfl, h⟩
      | exact iop_add_str pins s σ H _ _ v u Q I rx ry ⟨_, _, rfl, rfl, h.1, h.2⟩
theorem i_sub : PIp X .Sub mSub := fun pins s σ H x y v u Q I rx ry h => iop_sub pins s σ H x y v u Q I rx ry (mI0_ok h)
theorem c_len : CallR X (.builtin "len") (hLen X.K) := call_len
theorem c_int : CallR X (.type "int") mInt := CallR.weak call_int1 fun xs H Q h => by
  unfold mInt at h
  split at h
  · exact .inl ⟨_, rfl, h⟩
  · exact .inr ⟨_, rfl, h⟩
  · exact h.elim
theorem c_abs : CallR X (.builtin "abs") mAbs := CallR.weak call_abs fun xs H Q h => by
  unfold mAbs at h
  split at h
  · exact ⟨_, rfl, h⟩
  · exact h.elim
theorem c_list : CallR X (.type "list") (hListOf X.K) := call_list_of
theorem c_tuple : CallR X (.type "tuple") (hTupOf X.K) := call_tuple_of
theorem c_isi : CallR X (.builtin "isinstance") (rIsi X.K) := call_isi
theorem c_repr (hg : X.A.guards = some []) (hu : X.A.units + 64 < cLine) : CallR X (.builtin "repr") (hRepr X.K) := by
  intro pins s σ H xs us Q I r h
  obtain ⟨x, d, rfl, hd, hs, hn, hz, hl, q⟩ := h
  obtain ⟨u, rfl, rx⟩ := vals1 r
  obtain ⟨as, rd⟩ := Dp.reads I d x u hd rx
  cases hd with
  | int i =>
    obtain ⟨t, rfl⟩ := rx
    refine PySem.P.repr_of_int ?_ ⟨.str _, H, I.tok _, ⟨_, rfl⟩, ?_⟩
    · exact of_decide_eq_true (by simpa [PyData.showable] using hs)
    · simpa [PyData.shown] using q
  | lst h1 h2 =>
    cases rx
    exact repr_of_reads' rd hs (PyData.noDict_hsm hn) hg (by omega) (fun _ _ e => e) (fun h' u tk hk => ⟨.str _, H, I.kept hk, ⟨_, rfl⟩, q⟩) hl
  | tup h1 h2 =>
    cases rx
    exact repr_of_reads' rd hs (PyData.noDict_hsm hn) hg (by omega) (fun _ _ e => e) (fun h' u tk hk => ⟨.str _, H, I.kept hk, ⟨_, rfl⟩, q⟩) hl
  | non =>
    cases rx
    exact PySem.P.repr_of_none ⟨.str _, H, I.tok _, ⟨_, rfl⟩, by simpa [PyData.shown] using q⟩
  | bl b =>
    cases rx
    exact PySem.P.repr_of_bool ⟨.str _, H, I.tok _, ⟨_, rfl⟩, by simpa [PyData.shown] using q⟩
  | str z =>
    obtain ⟨t, rfl⟩ := rx
    exact PySem.P.repr_of_str ⟨.str _, H, I.tok _, ⟨_, rfl⟩, by simpa [PyData.shown] using q⟩ (by simpa [PyData.shown] using hl)
end

/-! ### defs that are called where no repr is under way -/
structure FnG (P : Program) (w : World) (K : PySem.W.Frag) (mg : Str → Option Value) (base : Heap) (k : Nat) (f : Addr) (fd : FuncData) (ps : List Str) (sp : Sp) : Prop where
  len : ∀ vs H Q E, sp vs H Q E → vs.length = ps.length
  go : ∀ (A : Around) (outer : List Env) (s : Shared) (H : Hp) (args : Args) (us : List Value) (vs : List V) (Q : VK) (E : XK), Room k A → A.guards = some [] →
    Env0 P w K mg base A outer s H → BindsTo s fd args (ps.zip us) → Vals vs us → sp vs H Q E → codeAny (model P w) A (.call (.ref f) args) (CR CX0 outer P w H s Q E) s
section
variable {P : Program} {w : World} {K : PySem.W.Frag} {mg : Str → Option Value} {base : Heap}
theorem okG {x qual : Str} {st : Stmt} {f : Addr} {fd : FuncData} {N ps : List Str} {k : Nat} {sp : Sp} (F : Fun K x qual st f fd) (S : FnScope N ps (defScope st))
    (len : ∀ vs H Q E, sp vs H Q E → vs.length = ps.length)
    (body : ∀ (cdv : Value) (A : Around) (outer : List Env) (s : Shared) (H : Hp) (vs : List V) (Q : VK) (E : XK), Room k (A.deeper (envOfC qual (defScope st) s.heap.objs.size f cdv)) →
      (A.deeper (envOfC qual (defScope st) s.heap.objs.size f cdv)).guards = some [] → sp vs H Q E →
      ∃ t, PSs (cxOf CX0 P w K mg base N qual (defScope st) f cdv A outer s H E).nox (defBody st) t ∧ t { nx := fun _ H' => Q .non H', rt := Q } (start N vs) H) :
    FnG P w K mg base (k + 1) f fd ps sp := by
  obtain ⟨oc, od, kV, doc, pm, an, cdv, ct, osl, efd, lk, hcd⟩ := F.ex
  subst efd
  refine ⟨len, fun A outer s H args us vs Q E hr hg e0 hb r hsp => ?_⟩
  have hl := len vs H Q E hsp
  have hkeep : ∀ b o, base.get? b = some o → s.heap.get? b = some o := fun b o e => (e0.bs b o e).1
  have KX : K.In s.heap := e0.mod.kin.keeps hkeep
  have lim : s.heap.NoLimit := e0.mod.nolimit.keeps hkeep
  have kinds : ∀ y ∈ ps.zip us, (defScope st).names.lookup y.1 = some .local ∨
      ((defScope st).names.lookup y.1 = some .cell ∧ ((cellsFrom (s.heap.objs.size + 1) (defScope st).names []).lookup y.1).isSome = true) := fun ⟨n, v⟩ hy => by
    rcases S.par n (List.of_mem_zip hy).1 with q | q
    · exact .inl q
    · exact .inr ⟨q, PySem.W.cellsFrom_some _ _ _ (.inl q)⟩
  refine codeAny_call_function hr.depth (KX f _ lk) rfl S.co S.gen rfl (PySem.W.codeRec_of KX hcd) (hb _ _ _ _ ?_)
  refine wpAny_newFunctionEnv_cells S.kind kinds fun env he s1 x => ?_
  subst he
  refine ⟨lim.keeps x.toInCall.keep, codeAny_func ?_⟩
  obtain ⟨t, ht0, hq⟩ := body cdv A outer s H vs Q E (hr.deeper _) hg hsp
  have ht := ht0.nox
  have I := inv_start (CX := CX0) (E := E) S hr.hd e0 hl r x
  refine wpAny_mono (ht.run [] s1 (start N vs) H _ I hq) (fun fl s' hs => ?_) fun _ _ hs => hs
  have fin : ∀ (σ' : L2.St) (H' : Hp) (v : V) (u : Value), Inv (cxOf CX0 P w K mg base N qual (defScope st) f cdv A outer s H E) [] σ' H' s' → RelV v u → Q v H' → CE outer P w H s Q u s' :=
    fun σ' H' v u J rv q => ⟨v, H', J.os, J.bare, J.base, J.hok, rv, q⟩
  cases fl with
  | next =>
    obtain ⟨σ', H', J, q⟩ := hs
    exact fin σ' H' .non .none J rfl q
  | ret u =>
    obtain ⟨v, σ', H', J, rv, q⟩ := hs
    exact fin σ' H' v u J rv q
  | brk => exact hs.elim fun _ z => z.elim fun _ z => False.elim z.2
  | cont => exact hs.elim fun _ z => z.elim fun _ z => False.elim z.2
theorem FnG.of {k : Nat} {f : Addr} {fd : FuncData} {ps : List Str} {sp : Sp} (F : FnOk P w K mg base CX0 k f fd ps sp) : FnG P w K mg base k f fd ps sp :=
  ⟨F.len, fun A outer s H args us vs Q E hr _ => F.run A outer s H args us vs Q E hr⟩
end
section
variable {X : Cx} {k : Nat} {f : Addr} {fd : FuncData} {ps : List Str} {sp : Sp} {dvs : List V} {ds : List Value} {E : XK} {x : Str} {p pos : Pos} {e : Expr} {es : List Expr} {t : TA}
theorem runG {pins : List (Addr × Obj)} {σ : L2.St} {H : Hp} {s : Shared} {Q : VK} {us : List Value} {vs : List V} (F : FnG X.prog X.w X.K X.mg X.base k f fd ps sp) (hg : X.A.guards = some []) (hr : Room k X.A)
    (hb : Binds X.K fd ps ds) (hd : Vals dvs ds) (I : Inv X pins σ H s) (r : Vals vs us) (h : sp (vs ++ dvs) H Q E) : wpAny (model X.prog X.w) X.A (call (.ref f) us) (EP X pins σ Q) X.xe s := by
  have r2 : Vals (vs ++ dvs) (us ++ ds) := r.append hd
  have hl : (us ++ ds).length = ps.length := r2.length.symm.trans (F.len _ _ _ _ h)
  refine wpAny_call (codeAny_mono (F.go X.A X.stack s H ⟨us, []⟩ (us ++ ds) (vs ++ dvs) Q E hr hg I.env0 (hb s us I.kIn hl) r2 h) fun rr s' hq => ?_)
  match rr, hq with
  | .error _, hq => exact False.elim hq
  | .ok (.ret u), hq => exact I.after hq
  | .ok .next, hq => exact False.elim hq
  | .ok .brk, hq => exact False.elim hq
  | .ok .cont, hq => exact False.elim hq
theorem pe_callG (F : FnG X.prog X.w X.K X.mg X.base k f fd ps sp) (hg : X.A.guards = some []) (hr : Room k X.A) (hgl : Gl X x) (hm : X.mg x = some (.ref f)) (hk : PySem.W.keepIn X.K (.ref f) = true)
    (hb : Binds X.K fd ps ds) (hd : Vals dvs ds) (ha : PA X (e :: es) t) (hdb : (x == ("__debug__" : Str)) = false := by decide)
    (he : starEach (e :: es) X.env = (false, eval e X.env) :: starEach es X.env := by rfl) (hpl : (backTo pos (starEach es X.env)).any (·.1) = false := by rfl) :
    PE X (.Call (.Name x p) (e :: es) [] pos) (tCall sp dvs E t) :=
  ⟨fun pins s σ H Q I h => wpAny_Call_Name_kw (ld_glob I hgl hm
    (PySem.W.callWith_K (h₀ := X.base) I.ok.mod.kin hk (thn (ha.run pos pins s σ H _ I h) fun us s1 ⟨vs, H1, I1, r, q⟩ => ⟨I1.kIn, runG F hg hr hb hd I1 r q⟩) he hpl) hdb)⟩
end

/-! ### the law's end -/
/-- an abstract heap that knows the script alone -/
theorem law_callG {P : Program} {w : World} {K : PySem.W.Frag} {mg mb : Str → Option Value} {k : Nat} {fa a : Addr} {fd : FuncData} {x : Str} {sp : Sp} {s₁ : Shared} {vs : List Value} {ns : List Int}
    (KX : K.In s₁.heap) (hns : s₁.heap.Ns mainGlobals mg) (hb : s₁.heap.Ns builtinsNs mb) (hbb : ∀ x : Str, x ≠ "__name__" → mb x = bootBuiltins x) (hlim : s₁.heap.NoLimit) (hg : s₁.gens = #[])
    (ha : s₁.heap.get? a = some { cls := .type "list", data := .seq vs.toArray }) (hi : IntsAre vs ns) (hl : ns.length ≤ sizeLine) (hr : Room k callerA)
    (F : ∀ base : Heap, K.In base → base.Ns mainGlobals mg → FnG P w K mg base k fa fd [x] sp) (hbind : ∀ (s : Shared) (u : Value), BindsTo s fd ⟨[u], []⟩ [(x, u)])
    (hsp : ∀ H : Hp, Only H → SqL K H a (ns.map V.int) → sp [.ref a] H (fun v _ => v = .bl true) fun _ _ _ => False) :
    codeAny (model P w) callerA (.call (.ref fa) ⟨[.ref a], []⟩) (fun r s' => r = .ok (.ret (.bool true)) ∧ OldK s₁.heap s'.heap ∧ s'.os = s₁.os ∧ AllBare s'.gens) s₁ := by
  have rv := vals_ints hi
  have lenV := hi.length
  -- whatever is known: nothing, or the script alone
  suffices core : ∀ H : Hp, Only H → SqL K H a (ns.map V.int) → HOk P w H s₁.heap → (∀ b, H b ≠ none → b = a ∧ K.lookup a = none) →
      codeAny (model P w) callerA (.call (.ref fa) ⟨[.ref a], []⟩) (fun r s' => r = .ok (.ret (.bool true)) ∧ OldK s₁.heap s'.heap ∧ s'.os = s₁.os ∧ AllBare s'.gens) s₁ by
    cases hk : K.lookup a with
    | some o =>
      have e := KX a o hk
      rw [ha] at e
      cases e
      refine core (fun _ => none) (fun _ => .inl rfl) (.inr ⟨_, vs.toArray, _, hk, rfl, rfl, rfl, ?_, ?_⟩) (fun b u z => ?_) (fun b z => absurd rfl z)
      · rw [List.size_toArray, lenV]
        exact hl
      · simpa using rv
      · exact nomatch (show (none : Option HO) = some u from z)
    | none =>
      refine core (upd (fun _ => none) a (.frz { cls := .type "list", data := .seq vs.toArray } (.lst (ns.map V.int)))) (fun b => ?_) (.inl (.inr ⟨_, upd_same⟩)) (fun b u z => ?_) (fun b z => ?_)
      · by_cases hb : b = a
        · subst hb
          exact .inr ⟨_, _, upd_same⟩
        · exact .inl (upd_ne hb)
      · by_cases hb : b = a
        · subst hb
          rw [upd_same] at z
          cases z
          exact ⟨ha, by rw [List.length_map]; exact hl, vs, _, rv, ha⟩
        · rw [upd_ne hb] at z
          cases z
      · by_cases hb : b = a
        · exact ⟨hb, hk⟩
        · exact absurd (upd_ne hb) z
  intro H hO hS hok hA
  have notDict : ∀ {b : Addr} {o : Obj} {es : Array DictEntry} {ep : Nat}, s₁.heap.get? b = some o → o.data = .dict es ep → H b = none := fun {b o es ep} e d => by
    cases q : H b with
    | none => rfl
    | some u =>
      obtain ⟨e', _⟩ := hA b (by rw [q]; exact nofun)
      subst e'
      rw [ha] at e
      cases e
      exact nomatch (show Data.seq vs.toArray _ = Data.dict es ep from d)
  have nsB : ∀ {b : Addr} {m : Str → Option Value}, s₁.heap.Ns b m → (hidT s₁.heap H).Ns b m := fun ⟨o, es, ep, e, d, r⟩ => ⟨o, es, ep, hidT_get e (notDict e d), d, r⟩
  have inB : K.In (hidT s₁.heap H) := fun b o e => hidT_get (KX b o e) (by
    cases q : H b with
    | none => rfl
    | some u =>
      obtain ⟨e', hk⟩ := hA b (by rw [q]; exact nofun)
      subst e'
      rw [hk] at e
      cases e)
  have md : Mod K mg (hidT s₁.heap H) := ⟨inB, nsB hns, ⟨mb, nsB hb, hbb⟩, hlim.elim fun mc h => ⟨mc, nsB h.1, h.2⟩⟩
  have none_in : ∀ b : Addr, b ∉ frs [] := fun b hb => absurd (show b ∈ ([] : List Addr) from hb) List.not_mem_nil
  have e0 : Env0 P w K mg (hidT s₁.heap H) callerA [] s₁ H := ⟨rfl, md, fun b o e => of_hidT e, Nat.le_of_eq (hidT_size _ _), trivial, fun b hb => absurd hb (none_in b), hok, .of_eq hg⟩
  refine codeAny_mono ((F _ inB (nsB hns)).go callerA [] s₁ H ⟨[.ref a], []⟩ [.ref a] [.ref a] _ _ hr rfl e0 (hbind s₁ (.ref a)) (.cons rfl .nil) (hsp H hO hS)) fun rr s' h => ?_
  match rr, h with
  | .error _, h => exact False.elim h
  | .ok .next, h => exact False.elim h
  | .ok .brk, h => exact False.elim h
  | .ok .cont, h => exact False.elim h
  | .ok (.ret u), h =>
    obtain ⟨v, H', os, bare, un, hok', r', q⟩ := h
    cases (show v = .bl true from q)
    cases (show u = Value.bool true from r')
    refine ⟨rfl, OldK.of_keep fun b o e => ?_, os, bare⟩
    rcases hO b with z | ⟨ob, xs, z⟩
    · exact un.keep b o e z (none_in b) List.not_mem_nil
    · obtain ⟨e1, _⟩ := hok b _ z
      obtain ⟨e2, _⟩ := hok' b _ (un.frzs b ob _ z)
      rw [e] at e1
      cases e1
      exact e2
theorem walk_ofG {l : PySem.W.OpenLaw} {n k : Nat} {q : Program} {loose : List Str} {XP : (Str → Option Value) → Heap → Prop} {YP : World → Heap → Prop} {d : DefRec} {K : Params → PySem.W.Frag} {sp : PySem.W.Frag → Sp} {x : Str}
    (hn : l.most = some n) (hn2 : n ≤ sizeLine) (hdf : d.params.defaults = []) (hr : Room k callerA) (hY : ∀ (w : World) (h : Heap), YP w h → (K w.params).In h)
    (F : ∀ (w : World) (mg : Str → Option Value) (fa : Addr) (h : Heap), (K w.params).In h → h.Ns mainGlobals mg → mg d.name = some (.ref fa) →
      ∃ fd : FuncData, (∀ (s : Shared) (u : Value), BindsTo s fd ⟨[u], []⟩ [(x, u)]) ∧
        ∀ base : Heap, (K w.params).In base → base.Ns mainGlobals mg → FnG l.prog w (K w.params) mg base k fa fd [x] (sp (K w.params)))
    (hsp : ∀ (K : PySem.W.Frag) (H : Hp) (a : Addr) (ns : List Int), ns.length ≤ n → (∀ z ∈ ns, Builtin.Int.intBits z ≤ 1048576) → Only H → SqL K H a (ns.map V.int) → sp K [.ref a] H (fun v _ => v = .bl true) fun _ _ _ => False) :
    PySem.W.WalkO q loose XP YP l.row.toRowW d [] (fun f vs => PySem.call f vs) := by
  refine Att.attach_callB hn hdf fun w s₀ s₁ mg mb fa o pm cd doc a vs ns G Y ho hd hcd hmg hobj hints hlen hbits hg => ?_
  have KX := hY w _ Y
  obtain ⟨fd, hb, hF⟩ := F w mg fa _ KX G.T.g hmg
  exact law_callG KX G.T.g G.T.b G.T.builtins G.T.nolimit hg hobj hints (Nat.le_trans hlen hn2) hr hF hb fun H hO hS => hsp _ H a ns hlen hbits hO hS


/-- a for over what J walks -/
def Lp (J : It) (g : TG) (tb : TS) (D : Ends) (σ : L2.St) (H : Hp) : Prop := ∃ W : Nat → Nat → L2.St → Hp → Prop, (∃ m, W 0 m σ H) ∧ ∀ i m σ H, W i m σ H →
  (J.stop i H ∧ D.nx σ H) ∨
    (J.go i H ∧ ∃ N : L2.St → Hp → Prop, (∀ σ' H', N σ' H' → ∃ m', m' < m ∧ W (i + 1) m' σ' H') ∧ ∀ x H', J.yld i H x H' → g x σ H' fun σ2 H2 => tb { D with nx := N, ct := N, bk := D.nx } σ2 H2)
/-- a list made over what J walks -/
def Lc (J : It) (g : TG) (tt : TT) (te : TE) (vs : List Nat) (σ : L2.St) (H1 : Hp) (Q : VK) : Prop := ∀ D, H1 D = none → ∃ W : Nat → Nat → Hp → Prop, (∃ m, W 0 m (upd H1 D (.lst []))) ∧ ∀ i m H, W i m H →
  (J.stop i H ∧ Q (.ref D) H) ∨
    (J.go i H ∧ ∃ Nx : Hp → Prop, (∀ H', Nx H' → ∃ m', m' < m ∧ W (i + 1) m' H') ∧ ∀ x H', J.yld i H x H' → g x (wipe σ vs) H' fun σ2 H2 => wipe σ2 vs = wipe σ vs ∧ tt σ2 H2 fun b H3 =>
      if b = true then te σ2 H3 fun y H4 => ∃ acc, H4 D = some (.lst acc) ∧ acc.length < sizeLine ∧ Nx (upd H4 D (.lst (acc ++ [y]))) else Nx H3)
/-- what is asked of range's ends -/
def rg1 (xs : List V) (P : Int → Prop) : Prop := match xs with
  | [.int j] => -(2 ^ 62) ≤ j ∧ j < 2 ^ 62 ∧ P j
  | _ => False
def rg2 (xs : List V) (P : Int → Int → Prop) : Prop := match xs with
  | [.int i, .int j] => (-(2 ^ 62) ≤ i ∧ i < 2 ^ 62 ∧ -(2 ^ 62) ≤ j ∧ j < 2 ^ 62) ∧ P i j
  | _ => False
theorem rg1_ok {xs : List V} {P : Int → Prop} : rg1 xs P = ∃ j : Int, xs = [.int j] ∧ -(2 ^ 62) ≤ j ∧ j < 2 ^ 62 ∧ P j := by
  refine propext ⟨fun h => ?_, fun ⟨j, e, h⟩ => by subst e; exact h⟩
  unfold rg1 at h
  split at h
  · exact ⟨_, rfl, h⟩
  · exact h.elim
theorem rg2_ok {xs : List V} {P : Int → Int → Prop} : rg2 xs P = ∃ i j : Int, xs = [.int i, .int j] ∧ (-(2 ^ 62) ≤ i ∧ i < 2 ^ 62 ∧ -(2 ^ 62) ≤ j ∧ j < 2 ^ 62) ∧ P i j := by
  refine propext ⟨fun h => ?_, fun ⟨i, j, e, h⟩ => by subst e; exact h⟩
  unfold rg2 at h
  split at h
  · exact ⟨_, _, rfl, h⟩
  · exact h.elim
def jR1 (ta : TA) : TI := fun σ H R => ta σ H fun vs H1 => rg1 vs fun j => R (Itr 0 j.toNat) H1
def jR2 (ta : TA) : TI := fun σ H R => ta σ H fun vs H1 => rg2 vs fun i j => R (Itr i (j - i).toNat) H1
/-- a list that is walked: its place -/
def isL (K : PySem.W.Frag) (x : V) (H : Hp) (P : Addr → Prop) : Prop := ∃ a, x = .ref a ∧ (∃ xs, SqL K H a xs) ∧ P a
def isT (K : PySem.W.Frag) (x : V) (H : Hp) (P : Addr → Prop) : Prop := ∃ a, x = .ref a ∧ (∃ xs, SqT K H a xs) ∧ P a
def jL (K : PySem.W.Frag) (tl : TE) : TI := fun σ H R => tl σ H fun x H1 => isL K x H1 fun a => R (Itl K a) H1
def jT (K : PySem.W.Frag) (tl : TE) : TI := fun σ H R => tl σ H fun x H1 => isT K x H1 fun a => R (Itt K a) H1
theorem jR1_eq (ta : TA) : iRng1 ta = jR1 ta := by
  funext σ H R
  unfold iRng1 jR1
  simp only [rg1_ok]
theorem jR2_eq (ta : TA) : iRng2 ta = jR2 ta := by
  funext σ H R
  unfold iRng2 jR2
  simp only [rg2_ok]
section
variable {X : Cx}
theorem i_rng1 {tg : Expr} {ta : TA} {iter : Expr} (h : PI X tg iter (iRng1 ta)) : PI X tg iter (jR1 ta) := jR1_eq ta ▸ h
theorem i_rng2 {tg : Expr} {ta : TA} {iter : Expr} (h : PI X tg iter (iRng2 ta)) : PI X tg iter (jR2 ta) := jR2_eq ta ▸ h
theorem i_list {tg iter : Expr} {tl : TE} (h : PI X tg iter (iList X.K tl)) : PI X tg iter (jL X.K tl) := h
theorem i_tup {tg iter : Expr} {tl : TE} (h : PI X tg iter (iTup X.K tl)) : PI X tg iter (jT X.K tl) := h
end
/-- equality of texts: a word of its own, that nothing evaluates -/
def eqS (a b : Str) : Bool := decide (a = b)
theorem eqS_t {a b : Str} (h : a = b) : eqS a b = true := decide_eq_true h
theorem eqS_f {a b : Str} (h : ¬ a = b) : eqS a b = false := decide_eq_false h
/-- several targets -/
def mGn : TGs := fun vs σ H Q => match vs with
  | [] => Q σ H
  | _ => False
def mGc (t : TG) (u : TGs) : TGs := fun vs σ H Q => match vs with
  | v :: r => t v σ H fun σ' H' => u r σ' H' Q
  | [] => False
theorem mGn_eq : gNil = mGn := by
  funext vs σ H Q
  refine propext ?_
  cases vs with
  | nil => exact ⟨fun h => h.2, fun h => ⟨rfl, h⟩⟩
  | cons v r => exact ⟨fun h => (nomatch h.1), fun h => False.elim h⟩
theorem mGc_eq (t : TG) (u : TGs) : gCons t u = mGc t u := by
  funext vs σ H Q
  refine propext ?_
  cases vs with
  | nil => exact ⟨fun ⟨v, r, e, _⟩ => (nomatch e), fun h => False.elim h⟩
  | cons v r => exact ⟨fun ⟨v, r, e, h⟩ => by cases e; exact h, fun h => ⟨v, r, rfl, h⟩⟩
theorem p_gnil {X : Cx} : PGs X [] mGn := mGn_eq ▸ pgs_nil
theorem p_gcons {X : Cx} {a : Expr} {as : List Expr} {t : TG} {u : TGs} (h1 : PG X a t) (h2 : PGs X as u) (hs : (assignEach (a :: as) X.env).map (·.2) = assign a X.env :: (assignEach as X.env).map (·.2) := by rfl) : PGs X (a :: as) (mGc t u) := mGc_eq t u ▸ pgs_cons h1 h2 hs
/-- a statement, then what is behind it, by a word of one's own between them -/
def mCut (t u : TS) : TS := fun D σ H => ∃ M : L2.St → Hp → Prop, t { D with nx := M } σ H ∧ ∀ σ' H', M σ' H' → u D σ' H'
theorem p_cut {X : Cx} {st : Stmt} {rest : List Stmt} {t u : TS} (h1 : PS X st t) (h2 : PSs X rest u) : PSs X (st :: rest) (mCut t u) where
  run := fun pins s σ H D I h => by
    obtain ⟨M, hm, hu⟩ := h
    have q1 := h1.run pins s σ H { D with nx := M } I hm
    refine wpAny_execs_cons (thn q1 ?_)
    intro fl s1 q
    cases fl with
    | next => exact q.elim fun σ' z => z.elim fun H' z => h2.run pins s1 σ' H' D z.1 (hu σ' H' z.2)
    | ret v => exact q
    | brk => exact q
    | cont => exact q
theorem h_cut {t u : TS} {D : Ends} {σ : L2.St} {H : Hp} (M : L2.St → Hp → Prop) (h1 : t { D with nx := M } σ H) (h2 : ∀ σ' H', M σ' H' → u D σ' H') : mCut t u D σ H := ⟨M, h1, h2⟩
/-- a new list, a new tuple -/
def newL (xs : List V) (H : Hp) (Q : VK) : Prop := xs.length ≤ sizeLine ∧ ∀ p, H p = none → Q (.ref p) (upd H p (.lst xs))
def newT (xs : List V) (H : Hp) (Q : VK) : Prop := xs.length ≤ sizeLine ∧ ∀ p, H p = none → Q (.ref p) (upd H p (.tup xs))
def vl (o : Option V) (Q : VK) (H : Hp) : Prop := match o with
  | some v => Q v H
  | none => False
/-- targets: a tuple's items -/
def tupl (K : PySem.W.Frag) (n : Nat) (t : TGs) (v : V) (σ : L2.St) (H : Hp) (Q : L2.St → Hp → Prop) : Prop := ∃ a xs, v = .ref a ∧ SqT K H a xs ∧ xs.length = n ∧ t xs σ H Q
def asV (v : V) (vs : List V) (P : List V → Prop) : Prop := match vs with
  | x :: r => P r
  | [] => False
def truK (K : PySem.W.Frag) (Q : Bool → Hp → Prop) (x : V) (H1 : Hp) : Prop := match x with
  | .bl b => Q b H1
  | .int i => Q (i != 0) H1
  | .non => Q false H1
  | x => hTru K x H1 Q
def partK (Q : Option Int → Hp → Prop) (x : V) (H1 : Hp) : Prop := match x with
  | .int i => Q (some i) H1
  | _ => False
section
variable {K : PySem.W.Frag} {σ : L2.St} {H H0 : Hp} {S : List Addr} {L : List (Addr × Ent)} {I : List (V × PyData)} {Q : VK} {QB : Bool → Hp → Prop} {QL : List V → Hp → Prop} {QS : L2.St → Hp → Prop} {QO : Option Int → Hp → Prop} {QH : Hp → Prop} {D : Ends} {v x y : V} {ta tb te tl tc : TE} {t u c tt : TT} {A : TA} {t1 t2 ts : TS} {r : R2} {g : TG} {gs : TGs} {vs : List V} {is : List Nat} {i j : Int} {a b : Str} {p q : Bool} {n : Nat} {rc : RCall} {rm : RMt} {rs : RSl} {T : String} {lo hi : TO} {wi : TI}
theorem a_lk0 : lk (none :: σ) 0 = none := rfl
theorem a_lk1 : lk (some v :: σ) 0 = some v := rfl
theorem a_lkS {o : Option V} : lk (o :: σ) (n + 1) = lk σ n := rfl
theorem a_V : mV n σ H Q = vl (lk σ n) Q H := rfl
theorem a_vl : vl (some v) Q H = Q v H := rfl
theorem a_c : tC v σ H Q = Q v H := rfl
theorem a_op : tOp r ta tb σ H Q = ta σ H fun x H1 => tb σ H1 fun y H2 => r x y H2 Q := rfl
theorem a_un {ru : V → Hp → VK → Prop} : tUn ru ta σ H Q = ta σ H fun x H1 => ru x H1 Q := rfl
theorem a_test : mTest ta σ H QB = ta σ H (toB QB) := rfl
theorem a_toB : toB QB (.bl p) H = QB p H := rfl
theorem a_tr : mTr K ta σ H QB = ta σ H (truK K QB) := rfl
theorem a_trB : truK K QB (.bl p) H = QB p H := rfl
theorem a_trI : truK K QB (.int i) H = QB (i != 0) H := rfl
theorem a_trN : truK K QB .non H = QB false H := rfl
theorem a_and : tAnd t u σ H QB = t σ H fun c H1 => if c = true then u σ H1 QB else QB false H1 := rfl
theorem a_or : tOr t u σ H QB = t σ H fun c H1 => if c = true then QB true H1 else u σ H1 QB := rfl
theorem a_not : tNot t σ H QB = t σ H fun c H1 => QB (!c) H1 := rfl
theorem a_andV : mAndV ta tb σ H Q = ta σ H (toB fun c H1 => if c = true then tb σ H1 Q else Q (.bl false) H1) := rfl
theorem a_orV : mOrV ta tb σ H Q = ta σ H (toB fun c H1 => if c = true then Q (.bl true) H1 else tb σ H1 Q) := rfl
theorem a_notV : mNotV ta σ H Q = ta σ H (toB fun c H1 => Q (.bl (!c)) H1) := rfl
theorem a_ifE : mIfE t ta tb σ H Q = t σ H fun b H1 => BrE b ta tb Q σ H1 := rfl
theorem a_nil : tNil σ H QL = QL [] H := rfl
theorem a_cons : tCons ta A σ H QL = ta σ H fun x H1 => A σ H1 fun xs H2 => QL (x :: xs) H2 := rfl
theorem a_lst : tLst A σ H Q = A σ H fun xs H1 => newL xs H1 Q := rfl
theorem a_tup : tTup A σ H Q = A σ H fun xs H1 => newT xs H1 Q := rfl
theorem a_call {sp : Sp} {dvs : List V} {E : XK} : tCall sp dvs E A σ H Q = A σ H fun vs H1 => sp (vs ++ dvs) H1 Q E := rfl
theorem a_CB : tCB rc A σ H Q = A σ H fun vs H1 => rc vs H1 Q := rfl
theorem a_BM : tBM K T rm ta A σ H Q = ta σ H fun x H1 => tyV K T x H1 ∧ A σ H1 fun xs H2 => rm x xs H2 Q := rfl
theorem a_BM0 : tBM0 K T rm ta σ H Q = ta σ H fun x H1 => tyV K T x H1 ∧ rm x [] H1 Q := rfl
theorem a_sl : tSl rs te lo hi σ H Q = te σ H fun x H1 => lo σ H1 fun l H2 => hi σ H2 fun u H3 => rs x l u H3 Q := rfl
theorem a_part : mPart te σ H QO = te σ H (partK QO) := rfl
theorem a_partI : partK QO (.int i) H = QO (some i) H := rfl
theorem a_noPart : tNoPart σ H QO = QO none H := rfl
theorem a_seq : tSeq t1 t2 D σ H = t1 { D with nx := t2 D } σ H := rfl
theorem a_next : tNext D σ H = D.nx σ H := rfl
theorem a_brk : tBreak D σ H = D.bk σ H := rfl
theorem a_cont : tCont D σ H = D.ct σ H := rfl
theorem a_asg : tAsg te g D σ H = te σ H fun x H1 => g x σ H1 D.nx := rfl
theorem a_name : gName n v σ H QS = QS (σ.set n (some v)) H := rfl
theorem a_drop : tDrop te D σ H = te σ H fun _ H1 => D.nx σ H1 := rfl
theorem a_ret : tRet te D σ H = te σ H D.rt := rfl
theorem a_retN : tRetN D σ H = D.rt .non H := rfl
theorem a_if : mIf t t1 t2 D σ H = t σ H fun b H1 => Br b t1 t2 D σ H1 := rfl
theorem a_aug : mAug n te r D σ H = vl (lk σ n) (fun x H => te σ H fun y H1 => r x y H1 fun z H2 => D.nx (σ.set n (some z)) H2) H := rfl
theorem a_for : tFor wi g ts D σ H = wi σ H fun J H1 => Lp J g ts D σ H1 := rfl
theorem a_lc {vs : List Nat} : tLc wi g tt te vs σ H Q = wi σ H fun J H1 => Lc J g tt te vs σ H1 Q := rfl
theorem a_jR1 {R : It → Hp → Prop} : jR1 A σ H R = A σ H fun vs H1 => rg1 vs fun j => R (Itr 0 j.toNat) H1 := rfl
theorem a_jR2 {R : It → Hp → Prop} : jR2 A σ H R = A σ H fun vs H1 => rg2 vs fun i j => R (Itr i (j - i).toNat) H1 := rfl
theorem a_jL {R : It → Hp → Prop} : jL K tl σ H R = tl σ H fun x H1 => isL K x H1 fun a => R (Itl K a) H1 := rfl
theorem a_jT {R : It → Hp → Prop} : jT K tl σ H R = tl σ H fun x H1 => isT K x H1 fun a => R (Itt K a) H1 := rfl
theorem a_rg1 {P : Int → Prop} : rg1 [.int i] P = (-(2 ^ 62) ≤ i ∧ i < 2 ^ 62 ∧ P i) := rfl
theorem a_rg2 {P : Int → Int → Prop} : rg2 [.int i, .int j] P = ((-(2 ^ 62) ≤ i ∧ i < 2 ^ 62 ∧ -(2 ^ 62) ≤ j ∧ j < 2 ^ 62) ∧ P i j) := rfl
theorem a_gsub {to ti : TE} {ts : TSet} : gSub to ti ts v σ H QS = to σ H fun o H1 => ti σ H1 fun i H2 => ts o i v H2 fun H3 => QS σ H3 := rfl
theorem a_yes : tYes σ H QB = QB true H := rfl
theorem a_addI : mAdd K (.int i) (.int j) H Q = Q (.int (i + j)) H := rfl
theorem a_addS : mAdd K (.str a) (.str b) H Q = (a.length + b.length ≤ sizeLine ∧ Q (.str (a ++ b)) H) := rfl
theorem a_addR {a b : Addr} : mAdd K (.ref a) (.ref b) H Q = hAdd K (.ref a) (.ref b) H Q := rfl
theorem a_iaddI : mIAdd (.int i) (.int j) H Q = Q (.int (i + j)) H := rfl
theorem a_iaddS : mIAdd (.str a) (.str b) H Q = (a.length + b.length ≤ sizeLine ∧ Q (.str (a ++ b)) H) := rfl
theorem a_sub : mSub (.int i) (.int j) H Q = Q (.int (i - j)) H := rfl
theorem a_mulI : mMul (.int i) (.int j) H Q = (CMul i j ∧ Q (.int (i * j)) H) := rfl
theorem a_mulR {a : Addr} : mMul (.ref a) (.int j) H Q = rRep (.ref a) (.int j) H Q := rfl
theorem a_fdiv : mFdiv (.int i) (.int j) H Q = (CDivW i j ∧ Q (.int (i / j)) H) := rfl
theorem a_mod : mMod (.int i) (.int j) H Q = (0 < j ∧ Q (.int (i % j)) H) := rfl
theorem a_pow : mPow (.int i) (.int j) H Q = (CPow i j ∧ Q (.int (i ^ j.toNat)) H) := rfl
theorem a_shl : mShl (.int i) (.int j) H Q = (CPow i j ∧ Q (.int (i * 2 ^ j.toNat)) H) := rfl
theorem a_shr : mShr (.int i) (.int j) H Q = (0 ≤ j ∧ Q (.int (i / 2 ^ j.toNat)) H) := rfl
theorem a_lt : mLt (.int i) (.int j) H Q = Q (.bl (decide (i < j))) H := rfl
theorem a_le : mLe (.int i) (.int j) H Q = Q (.bl (decide (i ≤ j))) H := rfl
theorem a_gt : mGt (.int i) (.int j) H Q = Q (.bl (decide (j < i))) H := rfl
theorem a_ge : mGe (.int i) (.int j) H Q = Q (.bl (decide (j ≤ i))) H := rfl
theorem a_neg : mNeg (.int i) H Q = Q (.int (-i)) H := rfl
theorem a_EqI : mEq K (.int i) (.int j) H Q = Q (.bl (decide (i = j))) H := rfl
theorem a_EqS : mEq K (.str a) (.str b) H Q = Q (.bl (eqS a b)) H := rfl
theorem a_EqB : mEq K (.bl p) (.bl q) H Q = Q (.bl (decide (p = q))) H := rfl
theorem a_EqNN : mEq K .non .non H Q = Q (.bl true) H := rfl
theorem a_EqIN : mEq K (.int i) (.non) H Q = Q (.bl false) H := rfl
theorem a_EqNI : mEq K (.non) (.int i) H Q = Q (.bl false) H := rfl
theorem a_EqSN : mEq K (.str a) (.non) H Q = Q (.bl false) H := rfl
theorem a_EqNS : mEq K (.non) (.str a) H Q = Q (.bl false) H := rfl
theorem a_EqRR {a b : Addr} : mEq K (.ref a) (.ref b) H Q = hEq K (.ref a) (.ref b) H Q := rfl
theorem a_EqRN {a : Addr} : mEq K (.ref a) .non H Q = hEq K (.ref a) .non H Q := rfl
theorem a_EqNR {a : Addr} : mEq K .non (.ref a) H Q = hEq K .non (.ref a) H Q := rfl
theorem a_NeI : mNe K (.int i) (.int j) H Q = Q (.bl (!decide (i = j))) H := rfl
theorem a_NeS : mNe K (.str a) (.str b) H Q = Q (.bl (!eqS a b)) H := rfl
theorem a_NeB : mNe K (.bl p) (.bl q) H Q = Q (.bl (!decide (p = q))) H := rfl
theorem a_NeNN : mNe K .non .non H Q = Q (.bl false) H := rfl
theorem a_NeIN : mNe K (.int i) (.non) H Q = Q (.bl true) H := rfl
theorem a_NeNI : mNe K (.non) (.int i) H Q = Q (.bl true) H := rfl
theorem a_NeSN : mNe K (.str a) (.non) H Q = Q (.bl true) H := rfl
theorem a_NeNS : mNe K (.non) (.str a) H Q = Q (.bl true) H := rfl
theorem a_NeRR {a b : Addr} : mNe K (.ref a) (.ref b) H Q = hNe K (.ref a) (.ref b) H Q := rfl
theorem a_NeRN {a : Addr} : mNe K (.ref a) .non H Q = hNe K (.ref a) .non H Q := rfl
theorem a_NeNR {a : Addr} : mNe K .non (.ref a) H Q = hNe K .non (.ref a) H Q := rfl
theorem a_isNN : mIsN .non .non H Q = Q (.bl true) H := rfl
theorem a_isNI : mIsN (.int i) .non H Q = Q (.bl false) H := rfl
theorem a_isNS : mIsN (.str a) .non H Q = Q (.bl false) H := rfl
theorem a_isNB : mIsN (.bl p) .non H Q = Q (.bl false) H := rfl
theorem a_isNR {a : Addr} : mIsN (.ref a) .non H Q = Q (.bl false) H := rfl
theorem a_notNN : mNotN .non .non H Q = Q (.bl false) H := rfl
theorem a_notNI : mNotN (.int i) .non H Q = Q (.bl true) H := rfl
theorem a_notNS : mNotN (.str a) .non H Q = Q (.bl true) H := rfl
theorem a_notNB : mNotN (.bl p) .non H Q = Q (.bl true) H := rfl
theorem a_notNR {a : Addr} : mNotN (.ref a) .non H Q = Q (.bl true) H := rfl
theorem a_intI : mInt [.int i] H Q = Q (.int i) H := rfl
theorem a_intB : mInt [.bl p] H Q = Q (.int (if p then 1 else 0)) H := rfl
theorem a_abs : mAbs [.int i] H Q = Q (.int (if i < 0 then -i else i)) H := rfl
theorem a_gnil : mGn [] σ H QS = QS σ H := rfl
theorem a_gcons : mGc g gs (v :: vs) σ H QS = g v σ H fun σ' H' => gs vs σ' H' QS := rfl
end
section
variable {K : PySem.W.Frag} {σ : L2.St} {H H0 : Hp} {S : List Addr} {L : List (Addr × Ent)} {I : List (V × PyData)} {Q : VK} {D : Ends} {v x y : V} {i : Int} {g : TG} {tb : TS} {tt : TT} {te : TE} {vs : List Nat}
/-! ### ledgers made -/
theorem Led.cons {a : Addr} {e : Ent} (hL : Led K H0 S H L I) (h : EntAt K H a e) (hn : a ∉ L.map (·.1)) : Led K H0 S H ((a, e) :: L) I where
  nd := by
    rw [List.map_cons, List.nodup_cons]
    exact ⟨hn, hL.nd⟩
  at_ := fun n b x q => by
    cases n with
    | zero =>
      have q' := Option.some.inj q
      cases q'
      exact h
    | succ n => exact hL.at_ n b x q
  im := hL.im
  kp := hL.kp
theorem Led.mk1 {a : Addr} {e : Ent} (h : EntAt K H a e) : Led K H S H [(a, e)] [] := Led.cons Led.start h List.not_mem_nil
theorem Led.mk2 {a b : Addr} {o u : HO} (h1 : H a = some o) (h2 : H b = some u) (hn : a ≠ b) : Led K H S H [(a, .raw o), (b, .raw u)] [] :=
  Led.cons (Led.mk1 (e := .raw u) h2) (e := .raw o) h1 fun m => hn (List.mem_singleton.mp m)
theorem Led.imm (h : Led K H0 S H L I) (n : Nat) {d : PyData} (e : I[n]? = some (v, d)) : Im K H v d := h.im n v d e
theorem h_imm (n : Nat) (h : Led K H0 S H L I) {d : PyData} (e : I[n]? = some (v, d)) : Im K H v d := h.im n v d e
theorem Led.sqL (h : Led K H0 S H L I) (n : Nat) {a : Addr} {xs : List V} (e : L[n]? = some (a, .raw (.lst xs))) : SqL K H a xs := SqL.of (h.raw n e)
theorem Led.fr (h : Led K H0 S H L I) {p : Addr} (hp : H p = none) : H0 p = none ∨ p ∈ S := by
  by_cases m : p ∈ S
  · exact .inr m
  · exact .inl (fresh0 h.kp m hp)
/-- two entries stand apart -/
theorem Led.ne (h : Led K H0 S H L I) (n m : Nat) {a b : Addr} {e u : Ent} (h1 : L[n]? = some (a, e)) (h2 : L[m]? = some (b, u)) (hnm : n ≠ m) : a ≠ b := fun ab => by
  subst ab
  have r1 : (L.map (·.1))[n]? = some a := by
    rw [List.getElem?_map, h1]
    rfl
  have r2 : (L.map (·.1))[m]? = some a := by
    rw [List.getElem?_map, h2]
    rfl
  exact hnm (nd_ix h.nd r1 r2)
/-! ### the heap's operations -/
theorem h_lst (h : Led K H0 S H L I) {xs : List V} (z : xs.length ≤ sizeLine) (k : ∀ p H', (H0 p = none ∨ p ∈ S) → Led K H0 S H' ((p, .raw (.lst xs)) :: L) I → Q (.ref p) H') : newL xs H Q :=
  ⟨z, fun p hp => k p _ (h.fr hp) (h.alloc hp)⟩
theorem h_tup (h : Led K H0 S H L I) {xs : List V} {ds : List PyData} (z : xs.length ≤ sizeLine) (hd : Ims K H xs ds) (k : ∀ p H', Led K H0 S H' L ((.ref p, .tuple ds) :: I) → Q (.ref p) H') : newT xs H Q :=
  ⟨z, fun p hp => k p _ (h.allocT hp hd)⟩
theorem h_ixL (n : Nat) (h : Led K H0 S H L I) {a : Addr} {xs : List V} (e : L[n]? = some (a, .raw (.lst xs))) (hx : atI xs i = some v) (k : Q v H) : rIx K (.ref a) (.int i) H Q :=
  .inl ⟨a, xs, i, v, rfl, rfl, h.sqL n e, hx, k⟩
theorem h_ixQ {a : Addr} {xs : List V} (h : SqL K H a xs) (hx : atI xs i = some v) (k : Q v H) : rIx K (.ref a) (.int i) H Q := .inl ⟨a, xs, i, v, rfl, rfl, h, hx, k⟩
theorem at_nn {α : Type} {xs : List α} {i : Int} {v : α} (h0 : 0 ≤ i) (h : xs[i.toNat]? = some v) : atI xs i = some v := by
  have q := atI_nat h
  rw [Int.toNat_of_nonneg h0] at q
  exact q
theorem h_ixT {a : Addr} {ds : List PyData} {d : PyData} (hd : Im K H (.ref a) (.tuple ds)) (h0 : 0 ≤ i) (hx : ds[i.toNat]? = some d) (k : ∀ v, Im K H v d → Q v H) : rIx K (.ref a) (.int i) H Q := by
  cases hd with
  | tup hs ha =>
    obtain ⟨v, hv, hi⟩ := ha.get' hx
    exact .inr (.inl ⟨a, _, _, v, rfl, rfl, hs, at_nn h0 hv, k v hi⟩)
/-- a scalar of a tuple -/
def vOf : PyData → Option V
  | .none => some .non
  | .bool b => some (.bl b)
  | .int i => some (.int i)
  | .str x => some (.str x)
  | _ => none
theorem Im.vOf {d : PyData} (h : Im K H v d) : ∀ u, vOf d = some u → v = u := fun u e => by
  cases h <;> first | exact Option.some.inj e | exact nomatch e
theorem h_ixTv {a : Addr} {ds : List PyData} {d : PyData} (hd : Im K H (.ref a) (.tuple ds)) (h0 : 0 ≤ i) (hx : ds[i.toNat]? = some d) (hv : Rs.vOf d = some v) (k : Q v H) : rIx K (.ref a) (.int i) H Q :=
  h_ixT hd h0 hx fun u hu => by rw [hu.vOf v hv]; exact k
theorem h_append (n : Nat) (h : Led K H0 S H L I) {a : Addr} {xs : List V} (e : L[n]? = some (a, .raw (.lst xs))) (hs : H0 a = none ∨ a ∈ S) (z : xs.length < sizeLine) (k : ∀ H', Led K H0 S H' (L.set n (a, .raw (.lst (xs ++ [y])))) I → Q .non H') : rAppend (.ref a) [y] H Q :=
  ⟨a, xs, y, rfl, rfl, h.raw n e, z, k _ (h.wr n e (fun b o q hb => by rw [upd_ne (by simpa using hb)]; exact q) (h.raw n e) rfl upd_same hs)⟩
theorem h_appendD (n : Nat) (h : Led K H0 S H L I) {a : Addr} {ds : List PyData} {d : PyData} (e : L[n]? = some (a, .dl ds)) (hd : Im K H y d) (hs : H0 a = none ∨ a ∈ S) (z : ds.length < sizeLine) (k : ∀ H', Led K H0 S H' (L.set n (a, .dl (ds ++ [d]))) I → Q .non H') : rAppend (.ref a) [y] H Q := by
  obtain ⟨xs, ha, hx⟩ := h.at_ n a _ e
  have hk : KBs H (upd H a (.lst (xs ++ [y]))) [a] := fun b o q hb => by rw [upd_ne (by simpa using hb)]; exact q
  have hN : NoT H [a] := NoT.one ha rfl
  exact ⟨a, xs, y, rfl, rfl, ha, by rw [hx.len]; exact z, k _ (h.wr n e hk ha rfl ⟨_, upd_same, (hx.keep hk hN).app (Ims.one (hd.keep hk hN))⟩ hs)⟩
theorem h_tyL {P : Prop} (n : Nat) (h : Led K H0 S H L I) {a : Addr} {xs : List V} (e : L[n]? = some (a, .raw (.lst xs))) (k : P) : tyV K "list" (.ref a) H ∧ P := ⟨.inl ⟨rfl, xs, h.sqL n e⟩, k⟩
theorem h_tyD {P : Prop} (n : Nat) (h : Led K H0 S H L I) {a : Addr} {ds : List PyData} (e : L[n]? = some (a, .dl ds)) (k : P) : tyV K "list" (.ref a) H ∧ P := by
  obtain ⟨xs, ha, hx⟩ := h.at_ n a _ e
  exact ⟨.inl ⟨rfl, xs, SqL.of ha⟩, k⟩
theorem h_tyS {P : Prop} {a : Str} (k : P) : tyV K "str" (.str a) H ∧ P := ⟨rfl, k⟩
theorem h_lenL (n : Nat) (h : Led K H0 S H L I) {a : Addr} {xs : List V} (e : L[n]? = some (a, .raw (.lst xs))) (k : Q (.int (xs.length : Nat)) H) : hLen K [.ref a] H Q := ⟨.ref a, _, rfl, .inl ⟨xs, h.sqL n e, rfl⟩, k⟩
theorem h_lenD (n : Nat) (h : Led K H0 S H L I) {a : Addr} {ds : List PyData} (e : L[n]? = some (a, .dl ds)) (k : Q (.int (ds.length : Nat)) H) : hLen K [.ref a] H Q := by
  obtain ⟨xs, ha, hx⟩ := h.at_ n a _ e
  exact ⟨.ref a, _, rfl, .inl ⟨xs, SqL.of ha, rfl⟩, by rw [hx.len]; exact k⟩
theorem h_lenQ {a : Addr} {xs : List V} (h : SqL K H a xs) (k : Q (.int (xs.length : Nat)) H) : hLen K [.ref a] H Q := ⟨.ref a, _, rfl, .inl ⟨xs, h, rfl⟩, k⟩
theorem h_lenT {a : Addr} {ds : List PyData} (h : Im K H (.ref a) (.tuple ds)) (k : Q (.int (ds.length : Nat)) H) : hLen K [.ref a] H Q := by
  cases h with
  | tup hs ha => exact ⟨.ref a, _, rfl, .inr ⟨_, hs, rfl⟩, by rw [ha.len]; exact k⟩
theorem h_lenS {z : Str} (h : z.length ≤ sizeLine) (k : Q (.int (z.length : Nat)) H) : hLen K [.str z] H Q := ⟨.str z, _, rfl, ⟨h, rfl⟩, k⟩
theorem h_setL {Q : Hp → Prop} (n : Nat) (h : Led K H0 S H L I) {a : Addr} {xs : List V} {m : Nat} (e : L[n]? = some (a, .raw (.lst xs))) (hs : H0 a = none ∨ a ∈ S) (hi : ixN xs.length i = some m) (k : ∀ H', Led K H0 S H' (L.set n (a, .raw (.lst (xs.set m v)))) I → Q H') : rSetL (.ref a) (.int i) v H Q :=
  ⟨a, xs, i, m, rfl, rfl, h.raw n e, hi, k _ (h.wr n e (fun b o q hb => by rw [upd_ne (by simpa using hb)]; exact q) (h.raw n e) rfl upd_same hs)⟩
theorem h_isL {a : Addr} {xs : List V} {P : Addr → Prop} (z : SqL K H a xs) (k : P a) : isL K (.ref a) H P := ⟨a, rfl, ⟨xs, z⟩, k⟩
theorem h_isLn {a : Addr} {xs : List V} {P : Addr → Prop} (n : Nat) (h : Led K H0 S H L I) (e : L[n]? = some (a, .raw (.lst xs))) (k : P a) : isL K (.ref a) H P := ⟨a, rfl, ⟨xs, h.sqL n e⟩, k⟩
theorem h_isLd {a : Addr} {ds : List PyData} {P : Addr → Prop} (n : Nat) (h : Led K H0 S H L I) (e : L[n]? = some (a, .dl ds)) (k : P a) : isL K (.ref a) H P := by
  obtain ⟨xs, ha, hx⟩ := h.at_ n a _ e
  exact ⟨a, rfl, ⟨xs, SqL.of ha⟩, k⟩
theorem h_isT {a : Addr} {ds : List PyData} {P : Addr → Prop} (h : Im K H (.ref a) (.tuple ds)) (k : P a) : isT K (.ref a) H P := by
  cases h with
  | tup hs ha => exact ⟨a, rfl, ⟨_, hs⟩, k⟩
theorem h_br {p : Prop} [Decidable p] {t u : TS} (h1 : p → t D σ H) (h2 : ¬ p → u D σ H) : Br (decide p) t u D σ H := by
  unfold Br
  by_cases h : p
  · rw [if_pos (decide_eq_true h)]
    exact h1 h
  · rw [if_neg (by rw [decide_eq_false h]; exact Bool.false_ne_true)]
    exact h2 h
theorem h_brn {p : Prop} [Decidable p] {t u : TS} (h1 : ¬ p → t D σ H) (h2 : p → u D σ H) : Br (!decide p) t u D σ H := by
  unfold Br
  by_cases h : p
  · rw [decide_eq_true h]
    exact iteF (h2 h)
  · rw [decide_eq_false h]
    exact iteT (h1 h)
theorem h_brb {b : Bool} {t u : TS} (h1 : b = true → t D σ H) (h2 : b = false → u D σ H) : Br b t u D σ H := by
  cases b
  · exact iteF (h2 rfl)
  · exact iteT (h1 rfl)
theorem h_brE {p : Prop} [Decidable p] {t u : TE} (h1 : p → t σ H Q) (h2 : ¬ p → u σ H Q) : BrE (decide p) t u Q σ H := by
  unfold BrE
  by_cases h : p
  · rw [if_pos (decide_eq_true h)]
    exact h1 h
  · rw [if_neg (by rw [decide_eq_false h]; exact Bool.false_ne_true)]
    exact h2 h
theorem h_brEb {b : Bool} {t u : TE} (h1 : b = true → t σ H Q) (h2 : b = false → u σ H Q) : BrE b t u Q σ H := by
  cases b
  · exact iteF (h2 rfl)
  · exact iteT (h1 rfl)
theorem h_brS {a b : Str} {t u : TS} (h1 : a = b → t D σ H) (h2 : ¬ a = b → u D σ H) : Br (eqS a b) t u D σ H := h_br h1 h2
theorem h_brSn {a b : Str} {t u : TS} (h1 : ¬ a = b → t D σ H) (h2 : a = b → u D σ H) : Br (!eqS a b) t u D σ H := h_brn h1 h2
theorem h_brES {a b : Str} {t u : TE} (h1 : a = b → t σ H Q) (h2 : ¬ a = b → u σ H Q) : BrE (eqS a b) t u Q σ H := h_brE h1 h2
theorem h_brT {t u : TS} (h1 : t D σ H) : Br true t u D σ H := iteT h1
theorem h_brF {t u : TS} (h1 : u D σ H) : Br false t u D σ H := iteF h1
theorem h_brET {t u : TE} (h1 : t σ H Q) : BrE true t u Q σ H := iteT h1
theorem h_brEF {t u : TE} (h1 : u σ H Q) : BrE false t u Q σ H := iteF h1
theorem h_ite {p A B : Prop} [Decidable p] (h1 : p → A) (h2 : ¬ p → B) : if decide p = true then A else B := by
  by_cases h : p
  · rw [if_pos (decide_eq_true h)]
    exact h1 h
  · rw [if_neg (by rw [decide_eq_false h]; exact Bool.false_ne_true)]
    exact h2 h
theorem h_itn {p A B : Prop} [Decidable p] (h1 : ¬ p → A) (h2 : p → B) : if (!decide p) = true then A else B := by
  by_cases h : p
  · rw [decide_eq_true h]
    exact iteF (h2 h)
  · rw [decide_eq_false h]
    exact iteT (h1 h)
theorem h_itb {b : Bool} {A B : Prop} (h1 : b = true → A) (h2 : b = false → B) : if b = true then A else B := by
  cases b
  · exact iteF (h2 rfl)
  · exact iteT (h1 rfl)
/-! ### numbers -/
theorem cdiv_ok {i j : Int} (h1 : 0 < j) (h2 : j < 2 ^ 64) : CDivW i j := wide_div (b := 64) h1 (by omega) (by decide) (by decide)
theorem cmul_l {i j : Int} (h1 : -(2 ^ 64) < i) (h2 : i < 2 ^ 64) : CMul i j := .inl ⟨h1, h2⟩
theorem cmul_r {i j : Int} (h1 : -(2 ^ 64) < j) (h2 : j < 2 ^ 64) : CMul i j := .inr ⟨h1, h2⟩
theorem h_mr {P : Prop} {i j : Int} (h1 : -(2 ^ 64) < j) (h2 : j < 2 ^ 64) (k : P) : CMul i j ∧ P := ⟨.inr ⟨h1, h2⟩, k⟩
theorem h_ml {P : Prop} {i j : Int} (h1 : -(2 ^ 64) < i) (h2 : i < 2 ^ 64) (k : P) : CMul i j ∧ P := ⟨.inl ⟨h1, h2⟩, k⟩
theorem h_dv {P : Prop} {i j : Int} (h1 : 0 < j) (h2 : j < 2 ^ 64) (k : P) : CDivW i j ∧ P := ⟨cdiv_ok h1 h2, k⟩
theorem h_pw {P : Prop} {i j : Int} (h1 : 0 ≤ j) (h2 : j ≤ 1000000) (h3 : i.natAbs < 2 ^ 64) (k : P) : CPow i j ∧ P := ⟨⟨h1, h2, h3⟩, k⟩
theorem cpow_ok {i j : Int} (h1 : 0 ≤ j) (h2 : j ≤ 1000000) (h3 : i.natAbs < 2 ^ 64) : CPow i j := ⟨h1, h2, h3⟩
theorem ixN_nn {n : Nat} {i : Int} (h0 : 0 ≤ i) (h : i < n) : ixN n i = some i.toNat := by
  unfold ixN
  rw [if_pos h0, if_pos h]
theorem at_ints {ns : List Int} {i : Int} (h0 : 0 ≤ i) (h : i < ns.length) : atI (ns.map V.int) i = some (.int (ns.getD i.toNat 0)) := by
  have h2 : i.toNat < ns.length := by omega
  refine at_nn h0 ?_
  rw [List.getElem?_map, List.getElem?_eq_getElem h2, List.getD_eq_getElem?_getD, List.getElem?_eq_getElem h2]
  rfl
/-! ### loops -/
theorem lpR {lo : Int} {n : Nat} (Pv : Nat → L2.St → Hp → Prop) (h0 : Pv 0 σ H)
    (hs : ∀ i σ H, i < n → Pv i σ H → g (.int (lo + i)) σ H fun σ2 H2 => tb { D with nx := Pv (i + 1), ct := Pv (i + 1), bk := D.nx } σ2 H2) (hd : ∀ σ H, Pv n σ H → D.nx σ H) : Lp (Itr lo n) g tb D σ H :=
  for_range Pv h0 hs hd
theorem lpL {a : Addr} {xs : List V} (Pv : Nat → L2.St → Hp → Prop) (h0 : Pv 0 σ H) (hl : ∀ i σ H, i ≤ xs.length → Pv i σ H → SqL K H a xs)
    (hs : ∀ i x σ H, xs[i]? = some x → Pv i σ H → g x σ H fun σ2 H2 => tb { D with nx := Pv (i + 1), ct := Pv (i + 1), bk := D.nx } σ2 H2) (hd : ∀ σ H, Pv xs.length σ H → D.nx σ H) : Lp (Itl K a) g tb D σ H :=
  for_list Pv h0 hl hs hd
theorem lpT {a : Addr} {xs : List V} (Pv : Nat → L2.St → Hp → Prop) (h0 : Pv 0 σ H) (hl : ∀ i σ H, i ≤ xs.length → Pv i σ H → SqT K H a xs)
    (hs : ∀ i x σ H, xs[i]? = some x → Pv i σ H → g x σ H fun σ2 H2 => tb { D with nx := Pv (i + 1), ct := Pv (i + 1), bk := D.nx } σ2 H2) (hd : ∀ σ H, Pv xs.length σ H → D.nx σ H) : Lp (Itt K a) g tb D σ H :=
  for_tup Pv h0 hl hs hd
/-- a list made; Pv: the list's place, the turn, the heap -/
theorem lcR {lo : Int} {n : Nat} (h : Led K H0 S H L I) (Pv : Addr → Nat → Hp → Prop) (h0 : ∀ p H', H0 p = none ∨ p ∈ S → Led K H0 S H' ((p, .raw (.lst [])) :: L) I → Pv p 0 H')
    (hs : ∀ p i H, i < n → Pv p i H → g (.int (lo + i)) (wipe σ vs) H fun σ2 H2 => wipe σ2 vs = wipe σ vs ∧ tt σ2 H2 fun b H3 =>
      if b = true then te σ2 H3 fun y H4 => ∃ acc, H4 p = some (.lst acc) ∧ acc.length < sizeLine ∧ Pv p (i + 1) (upd H4 p (.lst (acc ++ [y]))) else Pv p (i + 1) H3)
    (hd : ∀ p H, Pv p n H → Q (.ref p) H) : Lc (Itr lo n) g tt te vs σ H Q := fun p hp => lc_range (Pv p) (h0 p _ (h.fr hp) (h.alloc hp)) (hs p) (hd p)
theorem lcL {a : Addr} {xs : List V} (h : Led K H0 S H L I) (Pv : Addr → Nat → Hp → Prop) (h0 : ∀ p H', H0 p = none ∨ p ∈ S → Led K H0 S H' ((p, .raw (.lst [])) :: L) I → Pv p 0 H')
    (hl : ∀ p i H, i ≤ xs.length → Pv p i H → SqL K H a xs)
    (hs : ∀ p i x H, xs[i]? = some x → Pv p i H → g x (wipe σ vs) H fun σ2 H2 => wipe σ2 vs = wipe σ vs ∧ tt σ2 H2 fun b H3 =>
      if b = true then te σ2 H3 fun y H4 => ∃ acc, H4 p = some (.lst acc) ∧ acc.length < sizeLine ∧ Pv p (i + 1) (upd H4 p (.lst (acc ++ [y]))) else Pv p (i + 1) H3)
    (hd : ∀ p H, Pv p xs.length H → Q (.ref p) H) : Lc (Itl K a) g tt te vs σ H Q := fun p hp => lc_list (Pv p) (h0 p _ (h.fr hp) (h.alloc hp)) (hl p) (hs p) (hd p)
theorem lcT {a : Addr} {xs : List V} (h : Led K H0 S H L I) (Pv : Addr → Nat → Hp → Prop) (h0 : ∀ p H', H0 p = none ∨ p ∈ S → Led K H0 S H' ((p, .raw (.lst [])) :: L) I → Pv p 0 H')
    (hl : ∀ p i H, i ≤ xs.length → Pv p i H → SqT K H a xs)
    (hs : ∀ p i x H, xs[i]? = some x → Pv p i H → g x (wipe σ vs) H fun σ2 H2 => wipe σ2 vs = wipe σ vs ∧ tt σ2 H2 fun b H3 =>
      if b = true then te σ2 H3 fun y H4 => ∃ acc, H4 p = some (.lst acc) ∧ acc.length < sizeLine ∧ Pv p (i + 1) (upd H4 p (.lst (acc ++ [y]))) else Pv p (i + 1) H3)
    (hd : ∀ p H, Pv p xs.length H → Q (.ref p) H) : Lc (Itt K a) g tt te vs σ H Q := fun p hp => lc_tup (Pv p) (h0 p _ (h.fr hp) (h.alloc hp)) (hl p) (hs p) (hd p)
/-- the element comes to the list -/
theorem h_lcE {p : Addr} {acc : List V} {P : Hp → Prop} (n : Nat) (h : Led K H0 S H L I) (e : L[n]? = some (p, .raw (.lst acc))) (hs : H0 p = none ∨ p ∈ S) (z : acc.length < sizeLine)
    (k : ∀ H', Led K H0 S H' (L.set n (p, .raw (.lst (acc ++ [y])))) I → P H') : ∃ acc, H p = some (.lst acc) ∧ acc.length < sizeLine ∧ P (upd H p (.lst (acc ++ [y]))) :=
  ⟨acc, h.raw n e, z, k _ (h.wr n e (fun b o q hb => by rw [upd_ne (by simpa using hb)]; exact q) (h.raw n e) rfl upd_same hs)⟩
theorem h_lcD {p : Addr} {ds : List PyData} {d : PyData} {P : Hp → Prop} (n : Nat) (h : Led K H0 S H L I) (e : L[n]? = some (p, .dl ds)) (hd : Im K H y d) (hs : H0 p = none ∨ p ∈ S) (z : ds.length < sizeLine)
    (k : ∀ H', Led K H0 S H' (L.set n (p, .dl (ds ++ [d]))) I → P H') : ∃ acc, H p = some (.lst acc) ∧ acc.length < sizeLine ∧ P (upd H p (.lst (acc ++ [y]))) := by
  obtain ⟨xs, ha, hx⟩ := h.at_ n p _ e
  have hk : KBs H (upd H p (.lst (xs ++ [y]))) [p] := fun b o q hb => by rw [upd_ne (by simpa using hb)]; exact q
  have hN : NoT H [p] := NoT.one ha rfl
  exact ⟨xs, ha, by rw [hx.len]; exact z, k _ (h.wr n e hk ha rfl ⟨_, upd_same, (hx.keep hk hN).app (Ims.one (hd.keep hk hN))⟩ hs)⟩
theorem h_accL {p : Addr} {acc : List V} (n : Nat) (h : Led K H0 S H L I) (e : L[n]? = some (p, .raw (.lst acc))) (hs : H0 p = none ∨ p ∈ S) (z : acc.length < sizeLine) :
    ∃ acc', H p = some (.lst acc') ∧ acc'.length < sizeLine ∧ Led K H0 S (upd H p (.lst (acc' ++ [y]))) (L.set n (p, .raw (.lst (acc ++ [y])))) I :=
  h_lcE (P := fun H' => Led K H0 S H' (L.set n (p, .raw (.lst (acc ++ [y])))) I) n h e hs z fun H' h' => h'
theorem h_accD {p : Addr} {ds : List PyData} {d : PyData} (n : Nat) (h : Led K H0 S H L I) (e : L[n]? = some (p, .dl ds)) (hd : Im K H y d) (hs : H0 p = none ∨ p ∈ S) (z : ds.length < sizeLine) :
    ∃ acc, H p = some (.lst acc) ∧ acc.length < sizeLine ∧ Led K H0 S (upd H p (.lst (acc ++ [y]))) (L.set n (p, .dl (ds ++ [d]))) I :=
  h_lcD (P := fun H' => Led K H0 S H' (L.set n (p, .dl (ds ++ [d]))) I) n h e hd hs z fun H' h' => h'
theorem h_nT {A B : Prop} (k : B) : if (!true) = true then A else B := iteF k
theorem h_nF {A B : Prop} (k : A) : if (!false) = true then A else B := iteT k
theorem h_eqr {α : Type} {a : α} {P : Prop} (k : P) : a = a ∧ P := ⟨rfl, k⟩
/-- a while by an invariant and a number that falls -/
theorem lpW {c : TT} (Pv : Nat → L2.St → Hp → Prop) (m0 : Nat) (h0 : Pv m0 σ H)
    (hs : ∀ m σ H, Pv m σ H → c σ H fun b H1 => if b = true then ∃ N : L2.St → Hp → Prop, (∀ σ' H', N σ' H' → ∃ m', m' < m ∧ Pv m' σ' H') ∧ tb { D with nx := N, ct := N, bk := D.nx } σ H1 else D.nx σ H1) : tWhile c tb D σ H :=
  ⟨Pv, ⟨m0, h0⟩, hs⟩
/-- a list of ints, from a list of numbers -/
theorem Led.toD (h : Led K H0 S H L I) (n : Nat) {a : Addr} {xs : List V} {ds : List PyData} (e : L[n]? = some (a, .raw (.lst xs))) (hd : Ims K H xs ds) : Led K H0 S H (L.set n (a, .dl ds)) I := by
  have hn : n < L.length := (List.getElem?_eq_some_iff.mp e).1
  refine ⟨?_, fun m b x r => ?_, h.im, h.kp⟩
  · have e2 : (L.set n (a, Ent.dl ds)).map (·.1) = L.map (·.1) := by
      rw [List.map_set]
      refine List.ext_getElem? fun i => ?_
      by_cases hi : n = i
      · subst hi
        rw [List.getElem?_set_self (by rw [List.length_map]; exact hn), List.getElem?_map, e]
        rfl
      · rw [List.getElem?_set_ne hi]
    rw [e2]
    exact h.nd
  · by_cases hm : n = m
    · subst hm
      rw [List.getElem?_set_self hn] at r
      cases r
      exact ⟨xs, h.raw n e, hd⟩
    · rw [List.getElem?_set_ne hm] at r
      exact h.at_ m b x r
/-- loops over data -/
theorem Im.isRef {ds : List PyData} (h : Im K H v (.tuple ds)) : ∃ a, v = .ref a := by
  cases h with
  | tup _ _ => exact ⟨_, rfl⟩
theorem lpTI {a : Addr} {ds : List PyData} (Pv : Nat → L2.St → Hp → Prop) (h0 : Pv 0 σ H) (hl : ∀ i σ H, i ≤ ds.length → Pv i σ H → Im K H (.ref a) (.tuple ds))
    (hs : ∀ i x d σ H, ds[i]? = some d → Im K H x d → Pv i σ H → g x σ H fun σ2 H2 => tb { D with nx := Pv (i + 1), ct := Pv (i + 1), bk := D.nx } σ2 H2) (hd : ∀ σ H, Pv ds.length σ H → D.nx σ H) : Lp (Itt K a) g tb D σ H := by
  refine ⟨fun i m σ H => m = ds.length - i ∧ i ≤ ds.length ∧ Pv i σ H, ⟨ds.length, rfl, Nat.zero_le _, h0⟩, ?_⟩
  rintro i m σ H ⟨rfl, hi, p⟩
  cases hl i σ H hi p with
  | @tup _ xs _ hq hx =>
    have hlen := hx.len
    by_cases hlt : i < ds.length
    · have hlt2 : i < xs.length := by omega
      refine .inr ⟨⟨xs, xs[i], hq, List.getElem?_eq_getElem hlt2⟩, Pv (i + 1), fun σ' H' p' => ⟨ds.length - (i + 1), by omega, rfl, hlt, p'⟩, fun x H' y => ?_⟩
      obtain ⟨e, y⟩ := y
      subst e
      obtain ⟨d, hd1, hd2⟩ := hx.get (y xs hq)
      exact hs i x d σ _ hd1 hd2 p
    · have e : i = ds.length := by omega
      subst e
      exact .inl ⟨⟨xs, hq, by omega⟩, hd σ H p⟩
theorem lpLD {a : Addr} {ds : List PyData} (Pv : Nat → L2.St → Hp → Prop) (h0 : Pv 0 σ H) (hl : ∀ i σ H, i ≤ ds.length → Pv i σ H → EntAt K H a (.dl ds))
    (hs : ∀ i x d σ H, ds[i]? = some d → Im K H x d → Pv i σ H → g x σ H fun σ2 H2 => tb { D with nx := Pv (i + 1), ct := Pv (i + 1), bk := D.nx } σ2 H2) (hd : ∀ σ H, Pv ds.length σ H → D.nx σ H) : Lp (Itl K a) g tb D σ H := by
  refine ⟨fun i m σ H => m = ds.length - i ∧ i ≤ ds.length ∧ Pv i σ H, ⟨ds.length, rfl, Nat.zero_le _, h0⟩, ?_⟩
  rintro i m σ H ⟨rfl, hi, p⟩
  obtain ⟨xs, ha, hx⟩ := hl i σ H hi p
  have hq : SqL K H a xs := SqL.of ha
  have hlen := hx.len
  by_cases hlt : i < ds.length
  · have hlt2 : i < xs.length := by omega
    refine .inr ⟨⟨xs, xs[i], hq, List.getElem?_eq_getElem hlt2⟩, Pv (i + 1), fun σ' H' p' => ⟨ds.length - (i + 1), by omega, rfl, hlt, p'⟩, fun x H' y => ?_⟩
    obtain ⟨e, y⟩ := y
    subst e
    obtain ⟨d, hd1, hd2⟩ := hx.get (y xs hq)
    exact hs i x d σ _ hd1 hd2 p
  · have e : i = ds.length := by omega
    subst e
    exact .inl ⟨⟨xs, hq, by omega⟩, hd σ H p⟩
theorem lcLD {a : Addr} {ds : List PyData} (h : Led K H0 S H L I) (Pv : Addr → Nat → Hp → Prop) (h0 : ∀ p H', H0 p = none ∨ p ∈ S → Led K H0 S H' ((p, .raw (.lst [])) :: L) I → Pv p 0 H')
    (hl : ∀ p i H, i ≤ ds.length → Pv p i H → EntAt K H a (.dl ds))
    (hs : ∀ p i x d H, ds[i]? = some d → Im K H x d → Pv p i H → g x (wipe σ vs) H fun σ2 H2 => wipe σ2 vs = wipe σ vs ∧ tt σ2 H2 fun b H3 =>
      if b = true then te σ2 H3 fun y H4 => ∃ acc, H4 p = some (.lst acc) ∧ acc.length < sizeLine ∧ Pv p (i + 1) (upd H4 p (.lst (acc ++ [y]))) else Pv p (i + 1) H3)
    (hd : ∀ p H, Pv p ds.length H → Q (.ref p) H) : Lc (Itl K a) g tt te vs σ H Q := by
  intro p hp
  refine ⟨fun i m H => m = ds.length - i ∧ i ≤ ds.length ∧ Pv p i H, ⟨ds.length, rfl, Nat.zero_le _, h0 p _ (h.fr hp) (h.alloc hp)⟩, ?_⟩
  rintro i m H ⟨rfl, hi, q⟩
  obtain ⟨xs, ha, hx⟩ := hl p i H hi q
  have hq : SqL K H a xs := SqL.of ha
  have hlen := hx.len
  by_cases hlt : i < ds.length
  · have hlt2 : i < xs.length := by omega
    refine .inr ⟨⟨xs, xs[i], hq, List.getElem?_eq_getElem hlt2⟩, Pv p (i + 1), fun H' p' => ⟨ds.length - (i + 1), by omega, rfl, hlt, p'⟩, fun x H' y => ?_⟩
    obtain ⟨e, y⟩ := y
    subst e
    obtain ⟨d, hd1, hd2⟩ := hx.get (y xs hq)
    exact hs p i x d _ hd1 hd2 q
  · have e : i = ds.length := by omega
    subst e
    exact .inl ⟨⟨xs, hq, by omega⟩, hd p H q⟩
/-- data's form -/
def lay (n : Nat) (d : PyData) : Prop := d.canLay0 = true ∧ d.depth ≤ n
theorem lay_all : ∀ {n : Nat} {ds : List PyData}, (∀ d ∈ ds, lay n d) → PyData.canLayAll0 ds = true ∧ PyData.depthAll ds ≤ n
  | n, [], _ => ⟨by simp [PyData.canLayAll0], by simp [PyData.depthAll]⟩
  | n, d :: ds, h => by
    obtain ⟨h1, h2⟩ := h d List.mem_cons_self
    obtain ⟨h3, h4⟩ := lay_all (n := n) (ds := ds) fun x hx => h x (List.mem_cons_of_mem _ hx)
    refine ⟨by simp [PyData.canLayAll0, h1, h3], ?_⟩
    simp only [PyData.depthAll]
    omega
theorem lay_list {n : Nat} {ds : List PyData} (h : ∀ d ∈ ds, lay n d) : lay (n + 1) (.list ds) := by
  obtain ⟨h1, h2⟩ := lay_all h
  refine ⟨by simp [PyData.canLay0, h1], ?_⟩
  simp only [PyData.depth]
  omega
theorem lay_tup {n : Nat} {ds : List PyData} (h : ∀ d ∈ ds, lay n d) : lay (n + 1) (.tuple ds) := by
  obtain ⟨h1, h2⟩ := lay_all h
  refine ⟨by simp [PyData.canLay0, h1], ?_⟩
  simp only [PyData.depth]
  omega
theorem lay.shaped {n : Nat} {d : PyData} (h : lay n d) (hn : n ≤ 64 := by decide) : SeqAt.shaped d = true := by
  unfold SeqAt.shaped
  rw [h.1, decide_eq_true (Nat.le_trans h.2 hn)]
  rfl
theorem lay_int (i : Int) : lay 0 (.int i) := ⟨by simp [PyData.canLay0], by simp [PyData.depth]⟩
theorem lay_bool (b : Bool) : lay 0 (.bool b) := ⟨by simp [PyData.canLay0], by simp [PyData.depth]⟩
theorem lay_none : lay 0 .none := ⟨by simp [PyData.canLay0], by simp [PyData.depth]⟩
theorem lay_str {x : Str} (h : PyData.strOk x = true) : lay 0 (.str x) := ⟨by simp [PyData.canLay0, h], by simp [PyData.depth]⟩
theorem lay.up {n m : Nat} {d : PyData} (h : lay n d) (hm : n ≤ m) : lay m d := ⟨h.1, Nat.le_trans h.2 hm⟩
/-- in, not in -/
theorem Led.dpL (h : Led K H0 S H L I) (n : Nat) {a : Addr} {ds : List PyData} (e : L[n]? = some (a, .dl ds)) : Dp K H (.ref a) (.list ds) := by
  obtain ⟨xs, ha, hx⟩ := h.at_ n a _ e
  exact .lst (SqL.of ha) hx.dp
theorem h_ninD (n : Nat) (h : Led K H0 S H L I) {a : Addr} {ds : List PyData} {d : PyData} (e : L[n]? = some (a, .dl ds)) (hx : Im K H x d) (h1 : SeqAt.shaped d = true) (h2 : SeqAt.shaped (.list ds) = true) (k : Q (.bl (!ds.any fun z => PyData.eqv z d)) H) : uNin K x (.ref a) H Q :=
  .inr ⟨d, ds, hx.dp, h.dpL n e, h1, h2, k⟩
theorem h_inD (n : Nat) (h : Led K H0 S H L I) {a : Addr} {ds : List PyData} {d : PyData} (e : L[n]? = some (a, .dl ds)) (hx : Im K H x d) (h1 : SeqAt.shaped d = true) (h2 : SeqAt.shaped (.list ds) = true) (k : Q (.bl (ds.any fun z => PyData.eqv z d)) H) : uIn K x (.ref a) H Q :=
  .inr ⟨d, ds, hx.dp, h.dpL n e, h1, h2, k⟩
theorem at_map {α : Type} {f : α → V} {l : List α} {i : Int} (h0 : 0 ≤ i) (h : i < l.length) : ∃ z ∈ l, l[i.toNat]? = some z ∧ atI (l.map f) i = some (f z) := by
  have h2 : i.toNat < l.length := by omega
  refine ⟨l[i.toNat], List.getElem_mem h2, List.getElem?_eq_getElem h2, at_nn h0 ?_⟩
  rw [List.getElem?_map, List.getElem?_eq_getElem h2]
  rfl
/-- slices of tuples -/
def cutD (xs : List PyData) (lo hi : Option Int) : List PyData := (xs.drop (HT.sIx xs.length 0 lo)).take (HT.sIx xs.length xs.length hi - HT.sIx xs.length 0 lo)
theorem h_slT {a : Addr} {ds : List PyData} {lo hi : Option Int} (h : Led K H0 S H L I) (hd : Im K H (.ref a) (.tuple ds)) (k : ∀ p H', Led K H0 S H' L ((.ref p, .tuple (cutD ds lo hi)) :: I) → Q (.ref p) H') : uSl K (.ref a) lo hi H Q := by
  cases id hd with
  | @tup _ xs _ hq hx =>
    have hlen := hx.len
    refine .inr (.inl ⟨a, xs, rfl, hq, fun hw => ?_, fun hw p hp => ?_⟩)
    · refine k a H (h.imNew ?_)
      have e : cutD ds lo hi = ds := by
        unfold cutD
        rw [← hlen, hw.1, hw.2, hlen, List.drop_zero]
        exact List.take_of_length_le (Nat.le_refl _)
      rw [e]
      exact hd
    · refine k p _ (h.allocT hp ?_)
      unfold cutD cutV
      rw [hlen]
      exact Ims.take _ (Ims.drop _ hx)
theorem cutD_pre (ds : List PyData) (k : Nat) : cutD ds none (some (k : Int)) = ds.take k := by
  unfold cutD
  rw [HT.sIx_none, HT.sIx_nat, List.drop_zero, Nat.sub_zero]
  by_cases h : k ≤ ds.length
  · rw [Nat.min_eq_left h]
  · rw [Nat.min_eq_right (by omega), List.take_of_length_le (Nat.le_refl _), List.take_of_length_le (by omega)]
theorem cutD_suf (ds : List PyData) (k : Nat) : cutD ds (some (k : Int)) none = ds.drop k := by
  unfold cutD
  rw [HT.sIx_none, HT.sIx_nat]
  by_cases h : k ≤ ds.length
  · rw [Nat.min_eq_left h]
    exact List.take_of_length_le (by rw [List.length_drop]; exact Nat.le_refl _)
  · rw [Nat.min_eq_right (by omega), List.drop_eq_nil_of_le (Nat.le_refl _), List.drop_eq_nil_of_le (by omega), List.take_nil]
theorem h_slPre {a : Addr} {ds : List PyData} (h : Led K H0 S H L I) (hd : Im K H (.ref a) (.tuple ds)) (h0 : 0 ≤ i) (k : ∀ p H', Led K H0 S H' L ((.ref p, .tuple (ds.take i.toNat)) :: I) → Q (.ref p) H') : uSl K (.ref a) none (some i) H Q :=
  h_slT h hd fun p H' h' => k p H' (by
    have e : cutD ds none (some i) = ds.take i.toNat := by
      have q := cutD_pre ds i.toNat
      rw [Int.toNat_of_nonneg h0] at q
      exact q
    rw [e] at h'
    exact h')
/-- == of data -/
theorem h_eqD {d e : PyData} (hx : Dp K H x d) (hy : Dp K H y e) (h1 : SeqAt.shaped d = true) (h2 : SeqAt.shaped e = true) (k : Q (.bl (PyData.eqv d e)) H) : hEq K x y H Q := .inr ⟨d, e, hx, hy, h1, h2, k⟩
theorem h_neD {d e : PyData} (hx : Dp K H x d) (hy : Dp K H y e) (h1 : SeqAt.shaped d = true) (h2 : SeqAt.shaped e = true) (k : Q (.bl (!PyData.eqv d e)) H) : hNe K x y H Q := .inr ⟨d, e, hx, hy, h1, h2, k⟩
theorem h_eqI {d e : PyData} (hx : Im K H x d) (hy : Im K H y e) (h1 : SeqAt.shaped d = true) (h2 : SeqAt.shaped e = true) (k : Q (.bl (PyData.eqv d e)) H) : hEq K x y H Q := h_eqD hx.dp hy.dp h1 h2 k
theorem h_neI {d e : PyData} (hx : Im K H x d) (hy : Im K H y e) (h1 : SeqAt.shaped d = true) (h2 : SeqAt.shaped e = true) (k : Q (.bl (!PyData.eqv d e)) H) : hNe K x y H Q := h_neD hx.dp hy.dp h1 h2 k
/-- tuple(list) -/
theorem h_tupOf (n : Nat) (h : Led K H0 S H L I) {a : Addr} {ds : List PyData} (e : L[n]? = some (a, .dl ds)) (k : ∀ p H', Led K H0 S H' L ((.ref p, .tuple ds) :: I) → Q (.ref p) H') : hTupOf K [.ref a] H Q := by
  obtain ⟨xs, ha, hx⟩ := h.at_ n a _ e
  exact ⟨a, xs, rfl, .inl ⟨SqL.of ha, fun p hp => k p _ (h.allocT hp hx)⟩⟩
theorem h_listOf (n : Nat) (h : Led K H0 S H L I) {a : Addr} {xs : List V} (e : L[n]? = some (a, .raw (.lst xs))) (k : ∀ p H', (H0 p = none ∨ p ∈ S) → Led K H0 S H' ((p, .raw (.lst xs)) :: L) I → Q (.ref p) H') : hListOf K [.ref a] H Q :=
  ⟨a, xs, rfl, .inl (h.sqL n e), fun p hp => k p _ (h.fr hp) (h.alloc hp)⟩
/-- isinstance of a bool, an int -/
theorem h_isiB {b : Bool} (k : Q (.bl true) H) : rIsi K [.bl b, .ty "bool"] H Q := ⟨_, _, _, _, true, rfl, .ty "bool", .base (.bl b), kit_ty (by decide +kernel), k⟩
theorem Led.tl {q : V × PyData} (h : Led K H0 S H L (q :: I)) : Led K H0 S H L I := ⟨h.nd, h.at_, fun n v d e => h.im (n + 1) v d e, h.kp⟩
theorem Led.tlL {q : Addr × Ent} (h : Led K H0 S H (q :: L) I) : Led K H0 S H L I := ⟨(List.nodup_cons.mp h.nd).2, fun n a d e => h.at_ (n + 1) a d e, h.im, h.kp⟩
theorem Led.noI (h : Led K H0 S H L I) : Led K H0 S H L [] := ⟨h.nd, h.at_, fun n v d e => by simp at e, h.kp⟩
theorem any_take {α : Type} {l : List α} {i : Nat} {x : α} (h : l[i]? = some x) (f : α → Bool) : (l.take (i + 1)).any f = ((l.take i).any f || f x) := by
  rw [List.take_add_one, h, List.any_append]
  simp
theorem any_of {α : Type} {l : List α} {i : Nat} {x : α} (h : l[i]? = some x) {f : α → Bool} (hf : f x = true) : l.any f = true := List.any_eq_true.mpr ⟨x, List.mem_of_getElem? h, hf⟩
theorem map_get {α β : Type} {f : α → β} {l : List α} {i : Nat} {d : β} (h : (l.map f)[i]? = some d) : ∃ z, l[i]? = some z ∧ f z = d := by
  rw [List.getElem?_map] at h
  exact Option.map_eq_some_iff.mp h
theorem map_take {α β : Type} {l : List α} {i : Nat} {x : α} (h : l[i]? = some x) (f : α → β) : (l.take i).map f ++ [f x] = (l.take (i + 1)).map f := by
  rw [List.take_add_one, h, List.map_append]
  rfl
theorem snoc_map {α β : Type} (l : List α) (x : α) (f : α → β) : l.map f ++ [f x] = (l ++ [x]).map f := by rw [List.map_append]; rfl
theorem map_snoc (ds : List Int) (z : Int) : ds.map V.int ++ [V.int z] = (ds ++ [z]).map V.int := by rw [List.map_append]; rfl
/-- unpacking -/
theorem h_gtup {n : Nat} {a : Addr} {ds : List PyData} {gs : TGs} {Q : L2.St → Hp → Prop} (h : Im K H (.ref a) (.tuple ds)) (hn : ds.length = n) (k : ∀ xs, Ims K H xs ds → gs xs σ H Q) : gTup K n gs (.ref a) σ H Q := by
  cases h with
  | tup hs ha => exact ⟨a, _, rfl, hs, ha.len.trans hn, k _ ha⟩
theorem h_gtup2 {a : Addr} {d1 d2 : PyData} {gs : TGs} {Q : L2.St → Hp → Prop} (h : Im K H (.ref a) (.tuple [d1, d2])) (k : ∀ v1 v2, Im K H v1 d1 → Im K H v2 d2 → gs [v1, v2] σ H Q) : gTup K 2 gs (.ref a) σ H Q :=
  h_gtup h rfl fun xs hx => by
    cases hx with
    | cons h1 t =>
      cases t with
      | cons h2 t =>
        cases t
        exact k _ _ h1 h2
end

/-! ### raise and try -/
def mRaise0 (C : Addr) (W : WX) : TS := fun _ σ H => W (.ref C) none σ H
/-- isinstance of a caught error without fields -/
def rIsX (K : PySem.W.Frag) (cls : Value) (d : Option Addr) (a : Addr) : RCall := fun xs H Q => ∃ (c : V) (cv : Value) (D : Addr) (b : Bool), cls = .ref D ∧ d = none ∧ ExcC K D ∧ xs = [.ref a, c] ∧ (∀ u, RelV c u → u = cv) ∧ PySem.W.kitOne K (.ref D) cv = some b ∧ Q (.bl b) H
abbrev TCl := Addr → Value → Option Addr → TS
def mTryAs (K : PySem.W.Frag) (c : Value) (i : Nat) (tb : WX → TS) (ts : TCl) (Wout : WX) : TS := fun D σ H => tb (wAs K c i ts Wout D) D σ H
def mTryOnly (K : PySem.W.Frag) (c : Value) (tb : WX → TS) (ts : TCl) (Wout : WX) : TS := fun D σ H => tb (wOnly K c ts Wout D) D σ H
def wNo : WX := fun _ _ _ _ => False
section
variable {X : Cx}
theorem pmk_own0 {C : Addr} {bmB : List Value} {B newId initId : String} {x : Str} {p pos : Pos} (F : ExcBaseFacts B newId initId bmB) (q : PySem.W.excIn X.K C bmB newId = true) (gC : X.mg x = some (.ref C)) (kC : PySem.W.keepIn X.K (.ref C) = true) (r : Raises X (.ref C)) (hg : Gl X x)
    (hdb : (x == ("__debug__" : Str)) = false := by decide) : PMk X (.Call (.Name x p) [] [] pos) (fun _ H Q => Q (.ref C) none H) := by
  intro pins s σ H Q I h
  refine wpAny_Call_Name_kw (ld_glob I hg gC ?_ hdb)
  refine PySem.W.callWith_K0 I.kIn kC ?_
  show wpAny _ _ (call (.ref C) []) _ _ _
  obtain ⟨bm, N, nm, qn, bs, hdct, sn, sub, ab, col, dd, k0, k1, k2, k3, k5, mN, hC, hN, hni, T⟩ := exc_obj I.kIn q
  refine wpAny_call_exc_subT F T hC hN hni (fun h' e hm => ?_) (Nat.zero_le _)
  exact mk_of I hm r h (I.hok.gone hm.new)
theorem p_raise0 {W : WX} {C : Addr} {bmB : List Value} {B newId initId : String} {x : Str} {p pos pos2 : Pos} (hc : X.calm = true) (tk : Takes X W) (F : ExcBaseFacts B newId initId bmB) (q : PySem.W.excIn X.K C bmB newId = true) (gC : X.mg x = some (.ref C)) (kC : PySem.W.keepIn X.K (.ref C) = true) (b1 : PySem.W.subIn X.K (.ref C) (.type "BaseException") = some true) (b2 : PySem.W.typeIn X.K (.ref C) = some (.type "type")) (hg : Gl X x)
    (hdb : (x == ("__debug__" : Str)) = false := by decide) : PS X (.Raise (some (.Call (.Name x p) [] [] pos)) none pos2) (mRaise0 C W) := ps_raise hc tk (pmk_own0 F q gC kC (raises_own b1 b2) hg hdb)
theorem call_isX {a : Addr} {cls : Value} {d : Option Addr} {oe : Obj} {pn : List (Addr × Obj)} (hz : Zc cls d oe) (hf : ∃ vs, oe.data = .fields vs) : CallR (X.suite a ((a, oe) :: pn)) (.builtin "isinstance") (rIsX X.K cls d a) := by
  intro pins s σ H xs us Q I r h
  obtain ⟨c, cv, D, b, rfl, rfl, C, hx, hcv, e, q⟩ := h
  exact call_isE C hz hf pins s σ H xs us Q I r ⟨c, cv, b, hx, hcv, e, q⟩
theorem p_tryAs {x n : Str} {c : Value} {i : Nat} {body suite : List Stmt} {b₀ : Stmt} {np pos pos' : Pos} {tb : WX → TS} {ts : TCl} {Wout : WX} (hs : X.stack = X.env :: X.outer) (hf : X.env.frame = some X.env.locals) (hN : X.N.Nodup) (hi : X.N[i]? = some n) (hln : X.env.kindOf n = some .local) (hc : Names X x c) (tk : Takes X Wout)
    (hb : ∀ (W : WX) (pn : List (Addr × Obj)) (xe : Value → Shared → Prop), Takes (X.tr pn xe) W → PassesOwn (model X.prog X.w) X.A X.env xe → PSs (X.tr pn xe) body (tb W))
    (hsu : ∀ (a : Addr) (oe : Obj) (cls : Value) (d : Option Addr) (pn : List (Addr × Obj)), Zc cls d oe → (∃ vs, oe.data = .fields vs) → PSs (X.suite a ((a, oe) :: pn)) (b₀ :: suite) (ts a cls d)) :
    PS X (.Try body [.ExceptHandler (some (.Name x np)) (some n) (b₀ :: suite) pos'] [] [] pos) (mTryAs X.K c i tb ts Wout) := ps_try_as hs hf hN hi hln hc tk hb hsu
theorem p_tryOnly {x : Str} {c : Value} {body suite : List Stmt} {b₀ : Stmt} {np pos pos' : Pos} {tb : WX → TS} {ts : TCl} {Wout : WX} (hs : X.stack = X.env :: X.outer) (hf : X.env.frame = some X.env.locals) (hc : Names X x c) (tk : Takes X Wout)
    (hb : ∀ (W : WX) (pn : List (Addr × Obj)) (xe : Value → Shared → Prop), Takes (X.tr pn xe) W → PassesOwn (model X.prog X.w) X.A X.env xe → PSs (X.tr pn xe) body (tb W))
    (hsu : ∀ (a : Addr) (oe : Obj) (cls : Value) (d : Option Addr) (pn : List (Addr × Obj)), Zc cls d oe → (∃ vs, oe.data = .fields vs) → PSs (X.suite a ((a, oe) :: pn)) (b₀ :: suite) (ts a cls d)) :
    PS X (.Try body [.ExceptHandler (some (.Name x np)) none (b₀ :: suite) pos'] [] [] pos) (mTryOnly X.K c tb ts Wout) := ps_try_only hs hf hc tk hb hsu
theorem takesNo {X : Cx} : Takes X wNo := takes0
end
theorem exm_r {K : PySem.W.Frag} {C : Addr} {cls : Value} {b : Bool} (h1 : PySem.W.subIn K (.ref C) (.type "BaseException") = some true) (h2 : PySem.W.isClsIn K C = true) (h3 : PySem.W.typeIn K (.ref C) = some (.type "type")) (h4 : PySem.W.subIn K cls (.ref C) = some b) : PySem.W.exmOne K cls (.ref C) = some b := by
  have e1 : (PySem.W.subIn K (.ref C) (.type "BaseException") == some true) = true := by rw [h1] <;> rfl
  have h2' : (PySem.W.clsIn K C).isSome = true := h2
  have e2 : ((PySem.W.clsIn K C).isSome && PySem.W.typeIn K (.ref C) == some (.type "type")) = true := by rw [h2', h3] <;> rfl
  show (if (PySem.W.subIn K (.ref C) (.type "BaseException") == some true) = true then (if ((PySem.W.clsIn K C).isSome && PySem.W.typeIn K (.ref C) == some (.type "type")) = true then PySem.W.subIn K cls (.ref C) else none) else none) = some b
  rw [if_pos e1, if_pos e2]
  exact h4
theorem kit_r {K : PySem.W.Frag} {C D : Addr} {b : Bool} (h2 : PySem.W.isClsIn K C = true) (h3 : PySem.W.typeIn K (.ref C) = some (.type "type")) (h4 : PySem.W.subIn K (.ref D) (.ref C) = some b) (h5 : D = C → b = true) : PySem.W.kitOne K (.ref D) (.ref C) = some b := by
  have h2' : (PySem.W.clsIn K C).isSome = true := h2
  have e2 : ((PySem.W.clsIn K C).isSome && PySem.W.typeIn K (.ref C) == some (.type "type")) = true := by rw [h2', h3] <;> rfl
  unfold PySem.W.kitOne
  by_cases h : (Value.ref D == Value.ref C) = true
  · rw [if_pos h, h5 (Value.ref.inj (beq_iff_eq.mp h))]
  · rw [if_neg h]
    show (if ((PySem.W.clsIn K C).isSome && PySem.W.typeIn K (.ref C) == some (.type "type")) = true then PySem.W.subIn K (.ref D) (.ref C) else none) = some b
    rw [if_pos e2]
    exact h4
theorem kit_t {K : PySem.W.Frag} {D : Addr} {T : String} {b : Bool} (h2 : PySem.W.kitMeta T = true) (h4 : PySem.W.subIn K (.ref D) (.type T) = some b) : PySem.W.kitOne K (.ref D) (.type T) = some b := by
  unfold PySem.W.kitOne
  rw [if_neg (by intro h; exact nomatch beq_iff_eq.mp h)]
  show (if PySem.W.kitMeta T = true then PySem.W.subIn K (.ref D) (.type T) else none) = some b
  rw [if_pos h2]
  exact h4
/-- a copy the other way round -/
def revK (K : PySem.W.Frag) (x : V) (H1 : Hp) (Q : VK) : Prop := ∃ a xs, x = .ref a ∧ SqL K H1 a xs ∧ ∀ p, H1 p = none → Q (.ref p) (upd H1 p (.lst xs.reverse))
section
variable {K : PySem.W.Frag} {σ : L2.St} {H H0 : Hp} {S : List Addr} {L : List (Addr × Ent)} {I : List (V × PyData)} {Q : VK} {D : Ends} {v x y : V} {i j : Int} {A : TA} {te : TE} {W Wout : WX} {c cls : Value} {d : Option Addr} {tb : WX → TS} {ts : TCl} {m : Nat} {C : Addr}
theorem a_callS {sp : Sp} {E : L2.St → XK} : tCallS sp E A σ H Q = A σ H fun vs H1 => sp vs H1 Q (E σ) := rfl
theorem a_raise0 : mRaise0 C W D σ H = W (.ref C) none σ H := rfl
theorem a_tryAs : mTryAs K c m tb ts Wout D σ H = tb (wAs K c m ts Wout D) D σ H := rfl
theorem a_tryOnly : mTryOnly K c tb ts Wout D σ H = tb (wOnly K c ts Wout D) D σ H := rfl
theorem a_rev : tRevL K te σ H Q = te σ H fun x H1 => revK K x H1 Q := rfl
theorem h_wAsT (hm : PySem.W.exmOne K cls c = some true) (k : ∀ a, H a = none → ts a cls d { nx := fun σ' H' => D.nx (σ'.set m none) H', rt := D.rt, bk := fun σ' H' => D.bk (σ'.set m none) H', ct := fun σ' H' => D.ct (σ'.set m none) H' } (σ.set m (some (.ref a))) H) : wAs K c m ts Wout D cls d σ H :=
  ⟨true, hm, fun _ => k, fun z => nomatch z⟩
theorem h_wOnlyT (hm : PySem.W.exmOne K cls c = some true) (k : ∀ a, H a = none → ts a cls d D σ H) : wOnly K c ts Wout D cls d σ H := ⟨true, hm, fun _ => k, fun z => nomatch z⟩
theorem h_wAsF (hm : PySem.W.exmOne K cls c = some false) (k : Wout cls d σ H) : wAs K c m ts Wout D cls d σ H := ⟨false, hm, fun z => absurd z Bool.false_ne_true, fun _ => k⟩
theorem h_wOnlyF (hm : PySem.W.exmOne K cls c = some false) (k : Wout cls d σ H) : wOnly K c ts Wout D cls d σ H := ⟨false, hm, fun z => absurd z Bool.false_ne_true, fun _ => k⟩
theorem h_isXr {a C D : Addr} {b : Bool} (hD : ExcC K D) (hk : PySem.W.kitOne K (.ref D) (.ref C) = some b) (k : Q (.bl b) H) : rIsX K (.ref D) none a [.ref a, .ref C] H Q :=
  ⟨_, _, D, b, rfl, rfl, hD, rfl, fun _ r => r, hk, k⟩
theorem h_isXt {a D : Addr} {T : String} {b : Bool} (hD : ExcC K D) (hk : PySem.W.kitOne K (.ref D) (.type T) = some b) (k : Q (.bl b) H) : rIsX K (.ref D) none a [.ref a, .ty T] H Q :=
  ⟨_, _, D, b, rfl, rfl, hD, rfl, fun _ r => r, hk, k⟩
/-! ### lists of whole numbers -/
def cutI {α : Type} (xs : List α) (lo hi : Option Int) : List α := (xs.drop (HT.sIx xs.length 0 lo)).take (HT.sIx xs.length xs.length hi - HT.sIx xs.length 0 lo)
theorem cutI_map {α β : Type} (f : α → β) (xs : List α) (lo hi : Option Int) : cutI (xs.map f) lo hi = (cutI xs lo hi).map f := by
  unfold cutI
  rw [List.length_map, List.map_take, List.map_drop]
theorem sIx_nn {n d : Nat} {i : Int} (h : 0 ≤ i) : HT.sIx n d (some i) = min i.toNat n := by
  show (if i < 0 then (i + (n : Int)).toNat else min i.toNat n) = _
  rw [if_neg (by omega)]
theorem cutI_two {α : Type} (xs : List α) {i j : Int} (hi : 0 ≤ i) (hj : 0 ≤ j) : cutI xs (some i) (some j) = (xs.take j.toNat).drop i.toNat := by
  unfold cutI
  rw [sIx_nn hi, sIx_nn hj, List.drop_take]
  by_cases h : i.toNat ≤ xs.length
  · rw [Nat.min_eq_left h]
    by_cases h2 : j.toNat ≤ xs.length
    · rw [Nat.min_eq_left h2]
    · rw [Nat.min_eq_right (by omega), List.take_of_length_le (by rw [List.length_drop]; exact Nat.le_refl _), List.take_of_length_le (by rw [List.length_drop]; omega)]
  · rw [Nat.min_eq_right (show xs.length ≤ i.toNat by omega), List.drop_eq_nil_of_le (Nat.le_refl xs.length), List.drop_eq_nil_of_le (show xs.length ≤ i.toNat by omega), List.take_nil, List.take_nil]
theorem cutI_pre {α : Type} (xs : List α) {j : Int} (hj : 0 ≤ j) : cutI xs none (some j) = xs.take j.toNat := by
  unfold cutI
  rw [sIx_nn hj, HT.sIx_none, List.drop_zero, Nat.sub_zero]
  by_cases h2 : j.toNat ≤ xs.length
  · rw [Nat.min_eq_left h2]
  · rw [Nat.min_eq_right (by omega), List.take_of_length_le (Nat.le_refl _), List.take_of_length_le (by omega)]
theorem cutI_suf {α : Type} (xs : List α) {i : Int} (hi : 0 ≤ i) : cutI xs (some i) none = xs.drop i.toNat := by
  unfold cutI
  rw [sIx_nn hi, HT.sIx_none]
  by_cases h : i.toNat ≤ xs.length
  · rw [Nat.min_eq_left h]
    exact List.take_of_length_le (by rw [List.length_drop]; exact Nat.le_refl _)
  · rw [Nat.min_eq_right (by omega), List.drop_eq_nil_of_le (Nat.le_refl _), List.drop_eq_nil_of_le (by omega), List.take_nil]
theorem h_slG (n : Nat) (h : Led K H0 S H L I) {a : Addr} {xs : List V} {lo hi : Option Int} (e : L[n]? = some (a, .raw (.lst xs))) (k : ∀ p H', (H0 p = none ∨ p ∈ S) → Led K H0 S H' ((p, .raw (.lst (cutI xs lo hi))) :: L) I → Q (.ref p) H') : uSl K (.ref a) lo hi H Q :=
  .inl ⟨a, xs, rfl, h.sqL n e, fun p hp => k p _ (h.fr hp) (h.alloc hp)⟩
theorem h_sl2 (n : Nat) (h : Led K H0 S H L I) {a : Addr} {ns : List Int} (e : L[n]? = some (a, .raw (.lst (ns.map V.int)))) (hi : 0 ≤ i) (hj : 0 ≤ j) (k : ∀ p H', (H0 p = none ∨ p ∈ S) → Led K H0 S H' ((p, .raw (.lst (((ns.take j.toNat).drop i.toNat).map V.int))) :: L) I → Q (.ref p) H') : uSl K (.ref a) (some i) (some j) H Q :=
  h_slG n h e (by rw [cutI_map, cutI_two ns hi hj]; exact k)
theorem h_slp (n : Nat) (h : Led K H0 S H L I) {a : Addr} {ns : List Int} (e : L[n]? = some (a, .raw (.lst (ns.map V.int)))) (hj : 0 ≤ j) (k : ∀ p H', (H0 p = none ∨ p ∈ S) → Led K H0 S H' ((p, .raw (.lst ((ns.take j.toNat).map V.int))) :: L) I → Q (.ref p) H') : uSl K (.ref a) none (some j) H Q :=
  h_slG n h e (by rw [cutI_map, cutI_pre ns hj]; exact k)
theorem h_sls (n : Nat) (h : Led K H0 S H L I) {a : Addr} {ns : List Int} (e : L[n]? = some (a, .raw (.lst (ns.map V.int)))) (hi : 0 ≤ i) (k : ∀ p H', (H0 p = none ∨ p ∈ S) → Led K H0 S H' ((p, .raw (.lst ((ns.drop i.toNat).map V.int))) :: L) I → Q (.ref p) H') : uSl K (.ref a) (some i) none H Q :=
  h_slG n h e (by rw [cutI_map, cutI_suf ns hi]; exact k)
theorem h_rev (n : Nat) (h : Led K H0 S H L I) {a : Addr} {ns : List Int} (e : L[n]? = some (a, .raw (.lst (ns.map V.int)))) (k : ∀ p H', (H0 p = none ∨ p ∈ S) → Led K H0 S H' ((p, .raw (.lst (ns.reverse.map V.int))) :: L) I → Q (.ref p) H') : revK K (.ref a) H Q :=
  ⟨a, _, rfl, h.sqL n e, fun p hp => by rw [← List.map_reverse]; exact k p _ (h.fr hp) (h.alloc hp)⟩
theorem h_reverse (n : Nat) (h : Led K H0 S H L I) {a : Addr} {ns : List Int} (e : L[n]? = some (a, .raw (.lst (ns.map V.int)))) (hs : H0 a = none ∨ a ∈ S) (k : ∀ H', Led K H0 S H' (L.set n (a, .raw (.lst (ns.reverse.map V.int)))) I → Q .non H') : rReverse (.ref a) [] H Q :=
  ⟨a, _, rfl, rfl, h.raw n e, by
    rw [← List.map_reverse]
    exact k _ (h.wr n e (fun b o q hb => by rw [upd_ne (by simpa using hb)]; exact q) (h.raw n e) rfl upd_same hs)⟩
/-- a + b of two lists, the one at n, the other at m -/
theorem h_catG (n m : Nat) (h : Led K H0 S H L I) {a b : Addr} {xs ys : List V} (e : L[n]? = some (a, .raw (.lst xs))) (e2 : L[m]? = some (b, .raw (.lst ys))) (z : xs.length + ys.length ≤ sizeLine) (k : ∀ p H', (H0 p = none ∨ p ∈ S) → Led K H0 S H' ((p, .raw (.lst (xs ++ ys))) :: L) I → Q (.ref p) H') : hAdd K (.ref a) (.ref b) H Q :=
  .inl ⟨a, b, xs, ys, rfl, rfl, h.raw n e, h.raw m e2, z, fun p hp => k p _ (h.fr hp) (h.alloc hp)⟩
theorem h_cat (n m : Nat) (h : Led K H0 S H L I) {a b : Addr} {xs ys : List Int} (e : L[n]? = some (a, .raw (.lst (xs.map V.int)))) (e2 : L[m]? = some (b, .raw (.lst (ys.map V.int)))) (z : xs.length + ys.length ≤ sizeLine) (k : ∀ p H', (H0 p = none ∨ p ∈ S) → Led K H0 S H' ((p, .raw (.lst ((xs ++ ys).map V.int))) :: L) I → Q (.ref p) H') : hAdd K (.ref a) (.ref b) H Q :=
  h_catG n m h e e2 (by rw [List.length_map, List.length_map]; exact z) (by rw [← List.map_append]; exact k)
/-- [z] * j -/
theorem h_rep (n : Nat) (h : Led K H0 S H L I) {a : Addr} {z : Int} (e : L[n]? = some (a, .raw (.lst [.int z]))) (h0 : 0 ≤ j) (h1 : j ≤ 16000000) (k : ∀ p H', (H0 p = none ∨ p ∈ S) → Led K H0 S H' ((p, .raw (.lst ((List.replicate j.toNat z).map V.int))) :: L) I → Q (.ref p) H') : rRep (.ref a) (.int j) H Q :=
  ⟨a, j, _, rfl, rfl, h.raw n e, by omega, by omega, by rw [sizeLine_eq]; simp only [List.length_cons, List.length_nil]; omega, fun p hp => by
    have q : (List.replicate j.toNat [V.int z]).flatten = (List.replicate j.toNat z).map V.int := by
      induction j.toNat with
      | zero => rfl
      | succ n ih => rw [List.replicate_succ, List.flatten_cons, ih, List.replicate_succ]; rfl
    rw [q]
    exact k p _ (h.fr hp) (h.alloc hp)⟩
theorem h_ixI (n : Nat) (h : Led K H0 S H L I) {a : Addr} {ns : List Int} (e : L[n]? = some (a, .raw (.lst (ns.map V.int)))) (h0 : 0 ≤ i) (h1 : i < ns.length) (k : Q (.int (ns.getD i.toNat 0)) H) : rIx K (.ref a) (.int i) H Q := h_ixL n h e (at_ints h0 h1) k
theorem h_setI {Q : Hp → Prop} (n : Nat) (h : Led K H0 S H L I) {a : Addr} {ns : List Int} (e : L[n]? = some (a, .raw (.lst (ns.map V.int)))) (hs : H0 a = none ∨ a ∈ S) (h0 : 0 ≤ i) (h1 : i < ns.length) (k : ∀ H', Led K H0 S H' (L.set n (a, .raw (.lst ((ns.set i.toNat j).map V.int)))) I → Q H') : rSetL (.ref a) (.int i) (.int j) H Q :=
  h_setL n h e hs (ixN_nn h0 (by rw [List.length_map]; exact h1)) (by rw [← List.map_set]; exact k)
theorem h_appI (n : Nat) (h : Led K H0 S H L I) {a : Addr} {ns : List Int} (e : L[n]? = some (a, .raw (.lst (ns.map V.int)))) (hs : H0 a = none ∨ a ∈ S) (z : ns.length < sizeLine) (k : ∀ H', Led K H0 S H' (L.set n (a, .raw (.lst ((ns ++ [i]).map V.int)))) I → Q .non H') : rAppend (.ref a) [.int i] H Q :=
  h_append n h e hs (by rw [List.length_map]; exact z) (by rw [map_snoc]; exact k)
theorem h_copyI (n : Nat) (h : Led K H0 S H L I) {a : Addr} {ns : List Int} (e : L[n]? = some (a, .raw (.lst (ns.map V.int)))) (k : ∀ p H', (H0 p = none ∨ p ∈ S) → Led K H0 S H' ((p, .raw (.lst (ns.map V.int))) :: L) I → Q (.ref p) H') : hListOf K [.ref a] H Q := h_listOf n h e k
theorem eqvAll_ints : ∀ xs ys : List Int, PyData.eqvAll (xs.map PyData.int) (ys.map PyData.int) = decide (xs = ys)
  | [], [] => by simp [PyData.eqvAll]
  | [], _ :: _ => by simp [PyData.eqvAll]
  | _ :: _, [] => by simp [PyData.eqvAll]
  | x :: xs, y :: ys => by
    simp only [List.map_cons, PyData.eqvAll, PyData.eqv, eqvAll_ints xs ys]
    by_cases h1 : x = y
    · subst h1
      simp
    · simp [h1]
theorem eqv_lints (xs ys : List Int) : PyData.eqv (.list (xs.map PyData.int)) (.list (ys.map PyData.int)) = decide (xs = ys) := by
  simp only [PyData.eqv, eqvAll_ints]
theorem Led.dpI (h : Led K H0 S H L I) (n : Nat) {a : Addr} {ns : List Int} (e : L[n]? = some (a, .raw (.lst (ns.map V.int)))) : Dp K H (.ref a) (.list (ns.map PyData.int)) := .lst (h.sqL n e) (Ims.of_ints ns).dp
theorem lay_ints (ns : List Int) : lay 1 (.list (ns.map PyData.int)) := lay_list fun d hd => by
  obtain ⟨z, _, rfl⟩ := List.mem_map.mp hd
  exact lay_int z
theorem h_neLI (n m : Nat) (h : Led K H0 S H L I) {a b : Addr} {xs ys : List Int} (e : L[n]? = some (a, .raw (.lst (xs.map V.int)))) (e2 : L[m]? = some (b, .raw (.lst (ys.map V.int)))) (k : Q (.bl (!decide (xs = ys))) H) : hNe K (.ref a) (.ref b) H Q :=
  h_neD (h.dpI n e) (h.dpI m e2) (lay_ints xs).shaped (lay_ints ys).shaped (by rw [eqv_lints]; exact k)
theorem h_eqLI (n m : Nat) (h : Led K H0 S H L I) {a b : Addr} {xs ys : List Int} (e : L[n]? = some (a, .raw (.lst (xs.map V.int)))) (e2 : L[m]? = some (b, .raw (.lst (ys.map V.int)))) (k : Q (.bl (decide (xs = ys))) H) : hEq K (.ref a) (.ref b) H Q :=
  h_eqD (h.dpI n e) (h.dpI m e2) (lay_ints xs).shaped (lay_ints ys).shaped (by rw [eqv_lints]; exact k)
/-- h_neLI with the same list: it is equal -/
theorem h_neSame (n m : Nat) (h : Led K H0 S H L I) {a b : Addr} {xs ys : List Int} (e : L[n]? = some (a, .raw (.lst (xs.map V.int)))) (e2 : L[m]? = some (b, .raw (.lst (ys.map V.int)))) (q : xs = ys) (k : Q (.bl false) H) : hNe K (.ref a) (.ref b) H Q :=
  h_neLI n m h e e2 (by rw [decide_eq_true q]; exact k)
/-! ### range with a step -/
def rg3 (xs : List V) (P : Int → Int → Nat → Prop) : Prop := ∃ (i j c : Int) (n : Nat), xs = [.int i, .int j, .int c] ∧ RgC i j c n ∧ P i c n
def jR3 (ta : TA) : TI := fun σ H R => ta σ H fun vs H1 => rg3 vs fun i c n => R (Itc i c n) H1
theorem i_rng3 {X : Cx} {tg : Expr} {ta : TA} {iter : Expr} (h : PI X tg iter (iRng3 ta)) : PI X tg iter (jR3 ta) := h
theorem a_jR3 {R : It → Hp → Prop} : jR3 A σ H R = A σ H fun vs H1 => rg3 vs fun i c n => R (Itc i c n) H1 := rfl
theorem h_rg3 {c : Int} {n : Nat} {P : Int → Int → Nat → Prop} (h : RgC i j c n) (k : P i c n) : rg3 [.int i, .int j, .int c] P := ⟨i, j, c, n, rfl, h, k⟩
theorem rgC_up {c : Int} {m : Nat} (hc : 0 < c) (hc2 : c < 1000000) (hm : m ≤ 1000000) (hj : j = c * m) : RgC 0 j c m := by
  subst hj
  have h0 : 0 ≤ c * (m : Int) := Int.mul_nonneg (by omega) (by omega)
  have h1 : c * (m : Int) ≤ 1000000 * 1000000 := Int.mul_le_mul (by omega) (by omega) (by omega) (by omega)
  have hs : Builtin.Range.rangeSize 0 (c * m) c = m := by
    unfold Builtin.Range.rangeSize
    rw [if_pos (by omega)]
    by_cases hm0 : m = 0
    · subst hm0
      simp
    · have hp : 0 < c * (m : Int) := Int.mul_pos hc (by omega)
      rw [if_pos hp]
      have e : (c * (m : Int) - 0 - 1) = (c - 1) + c * (m - 1) := by rw [Int.mul_sub]; omega
      rw [e, Int.add_mul_ediv_left _ _ (by omega), Int.ediv_eq_zero_of_lt (by omega) (by omega)]
      omega
  refine ⟨by omega, by omega, ?_, hs⟩
  unfold Builtin.Range.small
  rw [hs]
  simp only [Builtin.Range.rangeFitsLong, Bool.and_eq_true, Bool.or_eq_true, decide_eq_true_eq, beq_iff_eq]
  refine ⟨by omega, .inr ?_⟩
  rw [if_pos (show c > 0 by omega), decide_eq_true (by omega), decide_eq_true (by omega)]
  rfl
theorem lpC {lo c : Int} {n : Nat} {g : TG} {tb : TS} (Pv : Nat → L2.St → Hp → Prop) (h0 : Pv 0 σ H)
    (hs : ∀ i σ H, i < n → Pv i σ H → g (.int (lo + (i : Nat) * c)) σ H fun σ2 H2 => tb { D with nx := Pv (i + 1), ct := Pv (i + 1), bk := D.nx } σ2 H2) (hd : ∀ σ H, Pv n σ H → D.nx σ H) : Lp (Itc lo c n) g tb D σ H := for_rangeC Pv h0 hs hd
/-! ### a tuple of scalars, unpacked -/
def vOfs : List PyData → Option (List V)
  | [] => some []
  | d :: r => match Rs.vOf d, vOfs r with
    | some v, some vs => some (v :: vs)
    | _, _ => none
theorem Ims.vOfs : ∀ {vs us : List V} {ds : List PyData}, Ims K H vs ds → Rs.vOfs ds = some us → vs = us
  | _, us, _, .nil, e => by
    cases e
    rfl
  | v :: vs, us, d :: ds, .cons h t, e => by
    unfold Rs.vOfs at e
    split at e
    · rename_i v' vs' e1 e2
      cases e
      rw [h.vOf _ e1, Ims.vOfs t e2]
    · cases e
theorem h_gtupV {n : Nat} {a : Addr} {ds : List PyData} {us : List V} {gs : TGs} {Q : L2.St → Hp → Prop} (h : Im K H (.ref a) (.tuple ds)) (hn : ds.length = n) (hv : Rs.vOfs ds = some us) (k : gs us σ H Q) : gTup K n gs (.ref a) σ H Q :=
  h_gtup h hn fun xs hx => by rw [hx.vOfs hv]; exact k
/-! ### fewer entries -/
def pickL (f : List Nat) (L : List (Addr × Ent)) : List (Addr × Ent) := f.map fun n => L[n]?.getD (0, .dl [])
theorem Led.pick (h : Led K H0 S H L I) (f : List Nat) (hf : f.Nodup := by decide) (hb' : (f.all fun n => decide (n < L.length)) = true := by rfl) : Led K H0 S H (pickL f L) I := by
  have hb : ∀ n ∈ f, n < L.length := fun n hn => of_decide_eq_true (List.all_eq_true.mp hb' n hn)
  refine h.take _ I f (List.range I.length) hf (by unfold pickL; rw [List.length_map]) (fun i n e => ?_) (by rw [List.length_range]) (fun i n e => ?_)
  · have hn := hb n (List.mem_of_getElem? e)
    unfold pickL
    rw [List.getElem?_map, e]
    show some (L[n]?.getD (0, .dl [])) = L[n]?
    rw [List.getElem?_eq_getElem hn]
    rfl
  · obtain ⟨h1, h2⟩ := List.getElem?_eq_some_iff.mp e
    rw [List.getElem_range] at h2
    rw [h2]
theorem h_brNT {t u : TS} (h1 : u D σ H) : Br (!true) t u D σ H := iteF h1
theorem h_brNF {t u : TS} (h1 : t D σ H) : Br (!false) t u D σ H := iteT h1
/-! ### repr of data -/
def shw (n W : Nat) (d : PyData) : Prop := d.showable = true ∧ d.hasDict = false ∧ d.depth ≤ n ∧ d.leavesShort 13 = true ∧ d.weight ≤ W
theorem shw_int {z : Int} (h : z.natAbs < 10 ^ 12) : shw 0 41 (.int z) := by
  have hl : z = 0 ∨ z.natAbs.log2 < 40 := by
    by_cases h0 : z = 0
    · exact .inl h0
    · exact .inr ((Nat.log2_lt (by omega)).mpr (Nat.lt_trans h (by decide)))
  refine ⟨?_, by simp [PyData.hasDict], by simp [PyData.depth], ?_, ?_⟩
  · unfold PyData.showable
    refine decide_eq_true ?_
    rcases hl with rfl | hl
    · decide
    · omega
  · simp only [PyData.leavesShort, decide_eq_true_eq]
    exact PyData.shown_int_le h
  · unfold PyData.weight
    rcases hl with rfl | hl
    · simp
    · split <;> omega
theorem shw_bool (b : Bool) : shw 0 41 (.bool b) := ⟨by simp [PyData.showable], by simp [PyData.hasDict], by simp [PyData.depth], by simp [PyData.leavesShort], by simp [PyData.weight]⟩
theorem shw_none : shw 0 41 .none := ⟨by simp [PyData.showable], by simp [PyData.hasDict], by simp [PyData.depth], by simp [PyData.leavesShort], by simp [PyData.weight]⟩
theorem shw.up {n n' W W' : Nat} {d : PyData} (h : shw n W d) (h1 : n ≤ n') (h2 : W ≤ W') : shw n' W' d := ⟨h.1, h.2.1, Nat.le_trans h.2.2.1 h1, h.2.2.2.1, Nat.le_trans h.2.2.2.2 h2⟩
theorem shw_all {n W : Nat} : ∀ {ds : List PyData}, (∀ d ∈ ds, shw n W d) → PyData.showableAll ds = true ∧ PyData.hasDictAll ds = false ∧ PyData.depthAll ds ≤ n ∧ PyData.leavesShortAll 13 ds = true ∧ PyData.weightAll ds ≤ ds.length * (W + 1)
  | [], _ => ⟨by simp [PyData.showableAll], by simp [PyData.hasDictAll], by simp [PyData.depthAll], by simp [PyData.leavesShortAll], by simp [PyData.weightAll]⟩
  | d :: ds, h => by
    obtain ⟨h1, h2, h3, h4, h5⟩ := h d List.mem_cons_self
    obtain ⟨g1, g2, g3, g4, g5⟩ := shw_all (ds := ds) fun x hx => h x (List.mem_cons_of_mem _ hx)
    refine ⟨by simp [PyData.showableAll, h1, g1], by simp [PyData.hasDictAll, h2, g2], ?_, by simp [PyData.leavesShortAll, h4, g4], ?_⟩
    · simp only [PyData.depthAll]
      omega
    · simp only [PyData.weightAll, List.length_cons]
      rw [Nat.succ_mul]
      omega
theorem shw_list {n W : Nat} {ds : List PyData} (h : ∀ d ∈ ds, shw n W d) : shw (n + 1) (ds.length * (W + 1)) (.list ds) := by
  obtain ⟨g1, g2, g3, g4, g5⟩ := shw_all h
  exact ⟨by simp [PyData.showable, g1], by simp [PyData.hasDict, g2], by simp only [PyData.depth]; omega, by simp [PyData.leavesShort, g4], by simp only [PyData.weight]; exact g5⟩
theorem shw_tup {n W : Nat} {ds : List PyData} (h : ∀ d ∈ ds, shw n W d) : shw (n + 1) (ds.length * (W + 1)) (.tuple ds) := by
  obtain ⟨g1, g2, g3, g4, g5⟩ := shw_all h
  exact ⟨by simp [PyData.showable, g1], by simp [PyData.hasDict, g2], by simp only [PyData.depth]; omega, by simp [PyData.leavesShort, g4], by simp only [PyData.weight]; exact g5⟩
theorem h_repr {x : V} {d : PyData} {n W : Nat} (hd : Dp K H x d) (h : shw n W d) (k : Q (.str d.shown) H) (hn : n ≤ 60 := by decide) (hW : W ≤ 2 ^ 20 := by decide) : hRepr K [x] H Q :=
  ⟨x, d, rfl, hd, h.1, h.2.1, Nat.le_trans h.2.2.1 hn, PyData.shown_fits (by decide) (by decide) h.2.2.2.1 (Nat.le_trans h.2.2.2.2 hW), k⟩
end

/-! ### objects -/
/-- what a class must say of its fields -/
structure CF (K : PySem.W.Frag) (C : Addr) (ns : List Str) : Prop where
  cl : Cls K C
  na : ∀ f ∈ ns, NoAttr K C f
def fldK (K : PySem.W.Frag) (f : Str) (x : V) (H : Hp) (Q : VK) : Prop := ∃ a C dx fs v, x = .ref a ∧ H a = some (.ins C dx fs) ∧ Cls K C ∧ NoAttr K C f ∧ fs.lookup f = some v ∧ Q v H
def sfldK (K : PySem.W.Frag) (f : Str) (y x : V) (H2 : Hp) (Q : Hp → Prop) : Prop := ∃ a C dx fs, x = .ref a ∧ H2 a = some (.ins C dx fs) ∧ Cls K C ∧ NoAttr K C f ∧ fs.length < 1000 ∧ Q (upd H2 a (.ins C dx (putF f y fs)))
def faugK (K : PySem.W.Frag) (f : Str) (x : V) (H1 : Hp) (P : Addr → Addr → V → Prop) : Prop := ∃ a C dx fs v, x = .ref a ∧ H1 a = some (.ins C dx fs) ∧ Cls K C ∧ NoAttr K C f ∧ fs.lookup f = some v ∧ P a C v
def faug2 (a C : Addr) (f : Str) (z : V) (H3 : Hp) (Q : Hp → Prop) : Prop := ∃ dx' fs', H3 a = some (.ins C dx' fs') ∧ fs'.length < 1000 ∧ Q (upd H3 a (.ins C dx' (putF f z fs')))
def methK (C : Addr) (m : Str) (x : V) (H1 : Hp) (P : Prop) : Prop := ∃ a dx fs, x = .ref a ∧ H1 a = some (.ins C dx fs) ∧ fs.lookup m = none ∧ P
def makeK (C : Addr) (H1 : Hp) (P : V → Hp → Prop) : Prop := ∀ x dx, H1 x = none → H1 dx = none → dx ≠ x → P (.ref x) (upd (upd H1 dx (.own x)) x (.ins C dx []))
/-- a method's call within a try, or a def that raises -/
def tMethE (C : Addr) (m : Str) (sp : Sp) (E : L2.St → XK) (ta : TE) (t : TA) : TE := fun σ H Q => ta σ H fun x H1 => methK C m x H1 (t σ H1 fun vs H2 => sp (x :: vs) H2 Q (E σ))
section
variable {X : Cx}
theorem pe_methE {CX : CXT} {k : Nat} {f C : Addr} {fd : FuncData} {ps : List Str} {sp : Sp} {E : L2.St → XK} {m : Str} {pos apos : Pos} {e o : Expr} {es : List Expr} {ta : TE} {t : TA} {pl : Sem Bool} (he : PE X o ta) (c : Cls X.K C) (hm : Meth X.K C m f)
    (F : FnOk X.prog X.w X.K X.mg X.base CX k f fd ps sp) (hr : Room k X.A) (hb : Binds X.K fd ps []) (hx : ∀ σ, PassesAt CX X σ (E σ)) (ha : PA X (e :: es) t)
    (hst : starEach (e :: es) X.env = (false, eval e X.env) :: starEach es X.env := by rfl) (hpl : (backTo pos (starEach es X.env)).any (·.1) = false := by rfl)
    (ht : eval (.Call (.Attribute o m apos) (e :: es) [] pos) X.env = (do
      let ov ← eval o X.env
      standAt apos.atName
      let (f, first) ← holding [ov] (getMethod ov m pl)
      callWith pos f first (backTo pos (starEach (e :: es) X.env)) (backToKw pos (keywordEach [] X.env))) := by rfl) :
    PE X (.Call (.Attribute o m apos) (e :: es) [] pos) (tMethE C m sp E ta t) := by
  refine ⟨fun pins s σ H Q I h => ?_⟩
  refine PySem.W.methodCall_KW (pl := pl) (thn (he.run pins s σ H _ I h) fun u s1 ⟨x, H1, I1, rx, a, dx, fs, ex, ea, l, q⟩ => ?_) ht
  subst ex
  obtain rfl : u = Value.ref a := rx
  refine getmeth_ok I1 ea c hm l ?_
  refine PySem.W.callWith_K (first := [.ref a]) (h₀ := X.base) I.ok.mod.kin hm.kp (thn (ha.run pos pins s1 σ H1 _ I1 q) fun us s2 ⟨vs, H2, I2, r, q2⟩ => ⟨I2.kIn, ?_⟩) hst hpl
  exact run_fnS (us := .ref a :: us) (vs := .ref a :: vs) F hr hb (hx σ) I2 (.cons rfl r) q2
theorem pe_methE0 {CX : CXT} {k : Nat} {f C : Addr} {fd : FuncData} {ps : List Str} {sp : Sp} {E : L2.St → XK} {m : Str} {pos apos : Pos} {o : Expr} {ta : TE} {pl : Sem Bool} (he : PE X o ta) (c : Cls X.K C) (hm : Meth X.K C m f)
    (F : FnOk X.prog X.w X.K X.mg X.base CX k f fd ps sp) (hr : Room k X.A) (hb : Binds X.K fd ps []) (hx : ∀ σ, PassesAt CX X σ (E σ))
    (ht : eval (.Call (.Attribute o m apos) [] [] pos) X.env = (do
      let ov ← eval o X.env
      standAt apos.atName
      let (f, first) ← holding [ov] (getMethod ov m pl)
      callWith pos f first (backTo pos (starEach [] X.env)) (backToKw pos (keywordEach [] X.env))) := by rfl) :
    PE X (.Call (.Attribute o m apos) [] [] pos) (tMethE C m sp E ta tNil) := by
  refine ⟨fun pins s σ H Q I h => ?_⟩
  refine PySem.W.methodCall_KW (pl := pl) (thn (he.run pins s σ H _ I h) fun u s1 ⟨x, H1, I1, rx, a, dx, fs, ex, ea, l, q⟩ => ?_) ht
  subst ex
  obtain rfl : u = Value.ref a := rx
  refine getmeth_ok I1 ea c hm l ?_
  exact PySem.W.callWith_K0 (first := [.ref a]) I1.kIn hm.kp (run_fnS (us := [.ref a]) (vs := [.ref a]) F hr hb (hx σ) I1 (.cons rfl .nil) q)
theorem pe_callE0 {CX : CXT} {k : Nat} {f : Addr} {fd : FuncData} {ps : List Str} {sp : Sp} {E : L2.St → XK} {x : Str} {p pos : Pos} (F : FnOk X.prog X.w X.K X.mg X.base CX k f fd ps sp) (hr : Room k X.A) (hg : Gl X x) (hm : X.mg x = some (.ref f)) (hk : PySem.W.keepIn X.K (.ref f) = true) (hb : Binds X.K fd ps [])
    (hx : ∀ σ, PassesAt CX X σ (E σ)) (hdb : (x == ("__debug__" : Str)) = false := by decide) : PE X (.Call (.Name x p) [] [] pos) (tCallS sp E tNil) := by
  refine ⟨fun pins s σ H Q I h => ?_⟩
  refine wpAny_Call_Name_kw (ld_glob I hg hm ?_ hdb)
  exact PySem.W.callWith_K0 I.kIn hk (run_fnS (us := []) F hr hb (hx σ) I .nil h)
theorem in_addM : InOp X .Add mIAdd := fun pins s σ H x y v u Q I rx ry h => by
  cases x <;> cases y <;>
    first
      | exact h.elim
      | exact iop_add pins s σ H _ _ v u Q I rx ry ⟨_, _, rfl, rfl, h⟩
      | exact iop_add_str pins s σ H _ _ v u Q I rx ry ⟨_, _, rfl, rfl, h.1, h.2⟩
theorem in_subM : InOp X .Sub mSub := fun pins s σ H x y v u Q I rx ry h => iop_sub pins s σ H x y v u Q I rx ry (mI0_ok h)
end
section
variable {K : PySem.W.Frag} {σ : L2.St} {H H' H0 : Hp} {S : List Addr} {L : List (Addr × Ent)} {I : List (V × PyData)} {Q : VK} {D : Ends} {v x y z : V} {A : TA} {ta tv te : TE} {f m : Str} {C : Addr} {sp : Sp} {dvs : List V} {E : XK} {ES : L2.St → XK} {r : R2} {ns : List Str} {fs : List (Str × V)} {a dx : Addr}
theorem a_fld : tFld K ta f σ H Q = ta σ H fun x H1 => fldK K f x H1 Q := rfl
theorem a_sfld : sFld K ta tv f D σ H = tv σ H fun y H1 => ta σ H1 fun x H2 => sfldK K f y x H2 (D.nx σ) := rfl
theorem a_sfldaug : sFldAug K ta tv r f D σ H = ta σ H fun x H1 => faugK K f x H1 fun a C v => tv σ H1 fun y H2 => r v y H2 fun z H3 => faug2 a C f z H3 (D.nx σ) := rfl
theorem a_meth : tMeth C m sp dvs E ta A σ H Q = ta σ H fun x H1 => methK C m x H1 (A σ H1 fun vs H2 => sp (x :: (vs ++ dvs)) H2 Q E) := rfl
theorem a_methE : tMethE C m sp ES ta A σ H Q = ta σ H fun x H1 => methK C m x H1 (A σ H1 fun vs H2 => sp (x :: vs) H2 Q (ES σ)) := rfl
theorem a_make : tMake C sp dvs E A σ H Q = A σ H fun vs H1 => makeK C H1 fun x H2 => sp (x :: (vs ++ dvs)) H2 (fun v H3 => v = .non ∧ Q x H3) E := rfl
theorem h_fld (n : Nat) (h : Led K H0 S H L I) (e : L[n]? = some (a, .raw (.ins C dx fs))) (c : CF K C ns) (hf : f ∈ ns) (hl : fs.lookup f = some v) (k : Q v H) : fldK K f (.ref a) H Q := ⟨a, C, dx, fs, v, rfl, h.raw n e, c.cl, c.na f hf, hl, k⟩
theorem Led.setF (h : Led K H0 S H L I) (n : Nat) (e : L[n]? = some (a, .raw (.ins C dx fs))) (hs : H0 a = none ∨ a ∈ S) (fs' : List (Str × V)) : Led K H0 S (upd H a (.ins C dx fs')) (L.set n (a, .raw (.ins C dx fs'))) I :=
  h.wr n e (fun b o q hb => by rw [upd_ne (by simpa using hb)]; exact q) (h.raw n e) rfl upd_same hs
theorem h_sfld {Q : Hp → Prop} {fs' : List (Str × V)} (n : Nat) (h : Led K H0 S H L I) (e : L[n]? = some (a, .raw (.ins C dx fs))) (c : CF K C ns) (hf : f ∈ ns) (hs : H0 a = none ∨ a ∈ S) (hl : fs.length < 1000) (hp : putF f y fs = fs') (k : ∀ H', Led K H0 S H' (L.set n (a, .raw (.ins C dx fs'))) I → Q H') : sfldK K f y (.ref a) H Q :=
  ⟨a, C, dx, fs, rfl, h.raw n e, c.cl, c.na f hf, hl, by rw [hp]; exact k _ (h.setF n e hs fs')⟩
theorem h_faug {P : Addr → Addr → V → Prop} (n : Nat) (h : Led K H0 S H L I) (e : L[n]? = some (a, .raw (.ins C dx fs))) (c : CF K C ns) (hf : f ∈ ns) (hl : fs.lookup f = some v) (k : P a C v) : faugK K f (.ref a) H P := ⟨a, C, dx, fs, v, rfl, h.raw n e, c.cl, c.na f hf, hl, k⟩
theorem h_faug2 {Q : Hp → Prop} {fs' : List (Str × V)} (n : Nat) (h : Led K H0 S H L I) (e : L[n]? = some (a, .raw (.ins C dx fs))) (hs : H0 a = none ∨ a ∈ S) (hl : fs.length < 1000) (hp : putF f z fs = fs') (k : ∀ H', Led K H0 S H' (L.set n (a, .raw (.ins C dx fs'))) I → Q H') : faug2 a C f z H Q :=
  ⟨dx, fs, h.raw n e, hl, by rw [hp]; exact k _ (h.setF n e hs fs')⟩
theorem h_meth {P : Prop} (n : Nat) (h : Led K H0 S H L I) (e : L[n]? = some (a, .raw (.ins C dx fs))) (hl : fs.lookup m = none) (k : P) : methK C m (.ref a) H P := ⟨a, dx, fs, rfl, h.raw n e, hl, k⟩
theorem h_make {P : V → Hp → Prop} (h : Led K H0 S H L I) (k : ∀ x dx H', (H0 x = none ∨ x ∈ S) → Led K H0 S H' ((x, .raw (.ins C dx [])) :: L) I → P (.ref x) H') : makeK C H P := fun x dx h1 h2 h3 => by
  have g1 := h.alloc (o := .own x) h2
  have hx : upd H dx (.own x) x = none := by rw [upd_ne (Ne.symm h3)]; exact h1
  have g2 := g1.alloc (o := .ins C dx []) hx
  exact k x dx _ (h.fr h1) (g2.take _ I (0 :: (List.range L.length).map (· + 2)) (List.range I.length) (by
    refine List.nodup_cons.mpr ⟨fun m => ?_, ?_⟩
    · obtain ⟨i, _, hi⟩ := List.mem_map.mp m
      omega
    · exact (List.pairwise_map.mpr ((List.nodup_range (n := L.length)).imp fun h e => h (by omega)))) (by simp) (fun i n e => by
      cases i with
      | zero =>
        cases e
        rfl
      | succ i =>
        have e' : ((List.range L.length).map (· + 2))[i]? = some n := e
        rw [List.getElem?_map] at e'
        obtain ⟨j, hj, rfl⟩ := Option.map_eq_some_iff.mp e'
        obtain ⟨h4, h5⟩ := List.getElem?_eq_some_iff.mp hj
        rw [List.getElem_range] at h5
        subst h5
        rfl) (by simp) (fun i n e => by
      obtain ⟨h4, h5⟩ := List.getElem?_eq_some_iff.mp e
      rw [List.getElem_range] at h5
      rw [h5]))
/-! ### a callee's ledger -/
def entMut : Ent → Bool
  | .raw o => isMut o
  | .dl _ => true
def adr (L : List (Addr × Ent)) (g : List Nat) : List Addr := g.map fun n => (L[n]?.getD (0, .dl [])).1
theorem EntAt.noT {e : Ent} (h : EntAt K H a e) (m : entMut e = true) : NoT H [a] := by
  cases e with
  | raw o => exact NoT.one h m
  | dl ds =>
    obtain ⟨xs, h1, _⟩ := h
    exact NoT.one h1 rfl
/-- the callee's ledger at its entry: some of the entries -/
theorem Led.rebase (h : Led K H0 S H L I) (g : List Nat) (S1 : List Addr) (hg : g.Nodup := by decide) (hb : (g.all fun n => decide (n < L.length)) = true := by rfl) : Led K H S1 H (pickL g L) I := by
  have q := h.pick g hg hb
  exact ⟨q.nd, q.at_, q.im, KBs.refl⟩
/-- back from the callee: g the entries that it may have changed, g2 those that it had (g among them), f those that it left -/
theorem Led.back {L1 : List (Addr × Ent)} {I1 : List (V × PyData)} (h : Led K H0 S H L I) (f g g2 : List Nat) {S1 : List Addr} (c : Led K H S1 H' L1 I1) (hS : ∀ b ∈ S1, b ∈ adr L g) (hd : ∀ e ∈ L1, e.1 ∈ adr L g2 ∨ H e.1 = none) (hs : ∀ b ∈ adr L g, H0 b = none ∨ b ∈ S) (hfg : (f ++ g2).Nodup := by decide) (hgg : (g.all fun n => g2.contains n) = true := by rfl)
    (hb : ((f ++ g2).all fun n => decide (n < L.length)) = true := by rfl) (hm : (g.all fun n => entMut (L[n]?.getD (0, .dl [])).2) = true := by rfl) : Led K H0 S H' (L1 ++ pickL f L) (I1 ++ I) := by
  have inR : ∀ n ∈ f ++ g2, n < L.length := fun n hn => of_decide_eq_true (List.all_eq_true.mp hb n hn)
  have sub : ∀ n ∈ g, n ∈ g2 := fun n hn => List.contains_iff_mem.mp (List.all_eq_true.mp hgg n hn)
  have at' : ∀ n (hn : n < L.length), L[n]?.getD (0, .dl []) = L[n] := fun n hn => by rw [List.getElem?_eq_getElem hn]; rfl
  have noT : NoT H S1 := fun b hb0 => by
    have hb2 := hS b hb0
    obtain ⟨n, hn, e⟩ := List.mem_map.mp hb2
    have hl := inR n (List.mem_append_right _ (sub n hn))
    have q := List.all_eq_true.mp hm n hn
    rw [at' n hl] at e q
    have r := (h.at_ n L[n].1 L[n].2 (List.getElem?_eq_getElem hl)).noT q
    rw [e] at r
    exact r b (List.mem_singleton.mpr rfl)
  have apart : ∀ n ∈ f, (L[n]?.getD (0, .dl [])).1 ∉ adr L g2 := fun n hn m => by
    obtain ⟨j, hj, e⟩ := List.mem_map.mp m
    have h1 := inR n (List.mem_append_left _ hn)
    have h2 := inR j (List.mem_append_right _ hj)
    rw [at' n h1, at' j h2] at e
    refine h.ne j n (a := L[j].1) (b := L[n].1) (e := L[j].2) (u := L[n].2) (List.getElem?_eq_getElem h2) (List.getElem?_eq_getElem h1) (fun q => ?_) e
    subst q
    exact (List.nodup_append.mp hfg).2.2 j hn j hj rfl
  have p := h.pick f (List.nodup_append.mp hfg).1 (List.all_eq_true.mpr fun n hn => decide_eq_true (inR n (List.mem_append_left _ hn)))
  have mem : ∀ e ∈ pickL f L, e.1 ∉ adr L g2 ∧ ∃ o, H e.1 = some o := fun e he => by
    obtain ⟨n, hn, q⟩ := List.mem_map.mp he
    refine ⟨q ▸ apart n hn, ?_⟩
    obtain ⟨i, hi, r⟩ := List.getElem_of_mem he
    exact (p.at_ i e.1 e.2 (by rw [List.getElem?_eq_getElem hi, r])).some
  have sub2 : ∀ b ∈ adr L g, b ∈ adr L g2 := fun b hb0 => by
    obtain ⟨n, hn, e⟩ := List.mem_map.mp hb0
    exact List.mem_map.mpr ⟨n, sub n hn, e⟩
  refine ⟨?_, fun n b e q => ?_, fun n v d q => ?_, fun b o q hb2 => ?_⟩
  · rw [List.map_append]
    refine List.nodup_append.mpr ⟨c.nd, p.nd, fun b hb1 b' hb2 e => ?_⟩
    subst e
    obtain ⟨e1, he1, q1⟩ := List.mem_map.mp hb1
    obtain ⟨e2, he2, q2⟩ := List.mem_map.mp hb2
    obtain ⟨m1, o, m2⟩ := mem e2 he2
    rcases hd e1 he1 with w | w
    · rw [q1] at w
      rw [q2] at m1
      exact m1 w
    · rw [q1, ← q2, m2] at w
      cases w
  · by_cases hn : n < L1.length
    · rw [List.getElem?_append_left hn] at q
      exact c.at_ n b e q
    · rw [List.getElem?_append_right (by omega)] at q
      exact (p.at_ _ b e q).keep c.kp noT fun m => (mem _ (List.mem_of_getElem? q)).1 (sub2 _ (hS _ m))
  · by_cases hn : n < I1.length
    · rw [List.getElem?_append_left hn] at q
      exact c.im n v d q
    · rw [List.getElem?_append_right (by omega)] at q
      exact (h.im _ v d q).keep c.kp noT
  · refine c.kp b o (h.kp b o q hb2) fun m => ?_
    rcases hs b (hS b m) with w | w
    · rw [q] at w
      cases w
    · exact hb2 w
theorem Led.iL {I1 : List (V × PyData)} (h : Led K H0 S H L (I1 ++ I)) : Led K H0 S H L I1 := ⟨h.nd, h.at_, fun n v d e => h.im n v d (by rw [List.getElem?_append_left (List.getElem?_eq_some_iff.mp e).1]; exact e), h.kp⟩
theorem Led.iR {I1 : List (V × PyData)} (h : Led K H0 S H L (I1 ++ I)) : Led K H0 S H L I := ⟨h.nd, h.at_, fun n v d e => h.im (I1.length + n) v d (by rw [List.getElem?_append_right (by omega), Nat.add_sub_cancel_left]; exact e), h.kp⟩
/-- an if whose two ways tell the same -/
theorem h_brEv {b : Bool} {t u : TE} (v : V) (h1 : b = true → ∀ Q' : VK, Q' v H → t σ H Q') (h2 : b = false → ∀ Q' : VK, Q' v H → u σ H Q') (k : Q v H) : BrE b t u Q σ H := h_brEb (fun e => h1 e Q k) fun e => h2 e Q k
/-- .. something of one kind -/
theorem h_brEj {b : Bool} {t u : TE} (P : V → Hp → Prop) (h1 : b = true → ∀ Q' : VK, (∀ v H', P v H' → Q' v H') → t σ H Q') (h2 : b = false → ∀ Q' : VK, (∀ v H', P v H' → Q' v H') → u σ H Q') (k : ∀ v H', P v H' → Q v H') : BrE b t u Q σ H := h_brEb (fun e => h1 e Q k) fun e => h2 e Q k
theorem h_truL (n : Nat) {xs : List V} {QB : Bool → Hp → Prop} (h : Led K H0 S H L I) (e : L[n]? = some (a, .raw (.lst xs))) (k : QB (!xs.isEmpty) H) : truK K QB (.ref a) H := ⟨_, .inl ⟨xs, h.sqL n e, rfl⟩, k⟩
theorem lk_here {k : Str} {v : V} {r : List (Str × V)} : List.lookup k ((k, v) :: r) = some v := by
  have e : (k == k) = true := beq_self_eq_true k
  simp only [List.lookup, e]
theorem lk_past {k g : Str} {v : V} {r : List (Str × V)} (h : (k == g) = false) : List.lookup k ((g, v) :: r) = List.lookup k r := by
  simp only [List.lookup, h]
theorem put_here {f : Str} {v x : V} {r : List (Str × V)} : putF f v ((f, x) :: r) = (f, v) :: r := if_pos rfl
theorem put_past {f g : Str} {v x : V} {r r' : List (Str × V)} (h : ¬ g = f) (q : putF f v r = r') : putF f v ((g, x) :: r) = (g, x) :: r' := by
  rw [← q]
  exact if_neg h
end

/-! ### a list stored ahead of a place: xs[:c] = ys -/
section
variable {prog : Program} {w : World} {A : Around} {E : Value → Shared → Prop} {s : Shared}
theorem bnd_to {c n : Nat} (hc : c ≤ n) : sliceBounds none (some (c : Int)) none n = (0, (c : Int), 1) := by
  have q : ¬ ((c : Int) < 0) := by omega
  simp only [sliceBounds, Option.getD_none, q, if_false, show (1 : Int) > 0 by decide, if_true]
  congr 2
  omega
set_option maxRecDepth 100000 in
theorem set_to {p q sl : Addr} {xs ys : Array Value} {n m : Nat} {vu : Value} {c : Nat} {Q : Unit → Shared → Prop} (ep : s.heap.get? p = some { cls := .type "list", data := .seq xs n }) (eq : s.heap.get? q = some { cls := .type "list", data := .seq ys m }) (hpq : p ≠ q)
    (hs : s.heap.IsSliceOf sl .none vu .none) (hu : IsPart vu (some (c : Int))) (hc : c ≤ xs.size) (hz : xs.size + ys.size ≤ sizeLine)
    (k : Q () { s with heap := s.heap.update p (Obj.mapSeq fun zs => zs.extract 0 0 ++ ys ++ zs.extract c zs.size) }) : wpAny (model prog w) A (setItem (.ref p) (.ref sl) (.ref q)) Q E s := by
  have Lp := PySem.IsL.isList ep
  have Lq := PySem.IsL.isList eq
  have Hs := hs
  obtain ⟨so, s1, s2, s3⟩ := Hs
  have Ts : s.TypeIs (.ref sl) "slice" := ⟨so, s1, s2⟩
  have z1 : ((fun zs : Array Value => zs.extract 0 0 ++ ys ++ zs.extract c zs.size) xs).size ≤ sizeLine + 1 := by
    simp only [Array.size_append, Array.size_extract]; omega
  have z2 : Builtin.List.listSameRef (.ref p) (.ref q) = false := by unfold Builtin.List.listSameRef; exact beq_eq_false_iff_ne.mpr hpq
  have z3 : (max (0 : Int) (c : Int)).toNat = c := by omega
  unfold setItem
  (try with_reducible refine wpAny_holding ?_)
  (first | refine wpAny_bind (wpAny_pure ?_) | skip)
  refine wpAny_bind (wpAny_sequenceKey Lp.typeIs (by decide) (wpAny_bind (wpAny_callSpecial?_slot (name := Str.ofString "__setitem__") Lp.typeIs slot_list_setitem (wpAny_call_entry slot_list_setitem Lp.typeIs entry_list_setitem ?_ (args_list_setitem _ _ _)))))
  (show wpAny _ _ (Builtin.List.listSubscript? (.ref sl) >>= _) _ _ s; refine wpAny_bind ?_; unfold Builtin.List.listSubscript?; refine wpAny_bind (wpAny_specialOf Ts slice_no_index ?_))
  (simp only [Option.isNone_none, if_true]; refine wpAny_pure ?_)
  (show wpAny _ _ (typeOf (.ref sl) >>= _) _ _ s; refine wpAny_bind (wpAny_typeOf Ts ?_))
  (first | rw [if_neg (by decide)] | refine PySem.W.KFB.if_not (by decide) ?_)
  (rw [listSliceParts_eq]; refine wpAny_bind (wpAny_bind (wpAny_field s1 s3 (x := .none) rfl (wpAny_bind (wpAny_listPart .none ?_)))))
  rw [if_neg (show ¬ ((rawPart none == rawInt 0) = true) from Bool.false_ne_true)]
  refine wpAny_bind (wpAny_field s1 s3 (x := .none) rfl (wpAny_bind (wpAny_listPart .none (wpAny_bind (wpAny_field s1 s3 (x := vu) rfl (wpAny_bind (wpAny_listPart hu (wpAny_pure ?_))))))))
  (first | simp only [z2, Bool.false_eq_true, if_false] | refine PySem.W.KFB.if_not z2 ?_)
  (refine wpAny_bind (m := Builtin.List.listAllItems (.ref q) "must assign iterable to extended slice") ?_; unfold Builtin.List.listAllItems; refine wpAny_bind (wpAny_typeOf Lq.typeIs ?_))
  (first | refine PySem.W.KFB.if_so (by decide) ?_ | rw [if_pos (by decide)] | simp only [beq_self_eq_true, Bool.true_or, if_true])
  (unfold Builtin.List.listItems; refine wpAny_bind (wpAny_seqItems eq rfl (wpAny_pure (wpAny_bind (wpAny_bind (wpAny_seqItems ep rfl (wpAny_pure ?_)))))))
  refine wpAny_bind (wpAny_of_eq ((sliceIndices_raw none (some (c : Int)) none xs.size (by simp)).trans (congrArg (pure : Int × Int × Int → Sem (Int × Int × Int)) (bnd_to hc))) ?_)
  (show wpAny _ _ (if ((1 : Int) == 1) = true then _ else _) _ _ s; rw [if_pos (by decide)]; refine wpAny_bind (wpAny_rule ?_))
  (first | simp only [notLongL hz, Bool.false_eq_true, if_false] | refine PySem.W.KFB.if_not (notLongL hz) ?_)
  (first | refine wpAny_bind (wpAny_pure ?_) | skip)
  (show wpAny _ _ (updateSeq p (fun zs => zs.extract 0 ((0 : Int)).toNat ++ ys ++ zs.extract (max (0 : Int) (c : Int)).toNat zs.size) >>= _) _ _ s; rw [z3])
  refine wpAny_bind (wpAny_updateSeq (hz := Nat.le_trans (Nat.le_add_right _ _) hz) (_hz' := z1) ep rfl (wpAny_bind (wpAny_letGo ?_)))
  first | exact wpAny_bind (wpAny_pure (wpAny_pure ⟨.none, rfl, wpAny_pure k⟩)) | exact wpAny_pure ⟨.none, rfl, wpAny_pure k⟩
end
section
variable {X : Cx}
/-- xs[:c] = ys, ys another list -/
def slToK (x u v : V) (H2 : Hp) (Q : Hp → Prop) : Prop := ∃ (p q : Addr) (xs ys : List V) (c : Int), x = .ref p ∧ v = .ref q ∧ u = .int c ∧ H2 p = some (.lst xs) ∧ H2 q = some (.lst ys) ∧ p ≠ q ∧ 0 ≤ c ∧ c ≤ xs.length ∧ xs.length + ys.length ≤ sizeLine ∧ Q (upd H2 p (.lst (ys ++ xs.drop c.toNat)))
def gSlTo (to th : TE) : TG := fun v σ H Q => to σ H fun x H1 => th σ H1 fun u H2 => slToK x u v H2 (Q σ)
theorem a_gslTo {to th : TE} {v : V} {σ : L2.St} {H : Hp} {Q : L2.St → Hp → Prop} : gSlTo to th v σ H Q = to σ H fun x H1 => th σ H1 fun u H2 => slToK x u v H2 (Q σ) := rfl
theorem pg_slTo {o hi : Expr} {to th : TE} {p2 pos : Pos} (ho : PE X o to) (hh : PE X hi th)
    (ha : ∀ v, assign (.Subscript o (.Slice none (some hi) none p2) pos) X.env v = (do
      let ov ← holding [v] (eval o X.env)
      let iv ← holding [v, ov] (eval (.Slice none (some hi) none p2) X.env)
      standAt pos
      holding [v, ov, iv] (setItem ov iv v)
      release [iv, v, ov] []) := by intro _; rfl) : PG X (.Subscript o (.Slice none (some hi) none p2) pos) (gSlTo to th) := ⟨fun pins s σ H v u Q I r h => by
  rw [ha]
  refine wpAny_bind (wpAny_holding (thn (ho.run pins s σ H _ I h) fun ov s1 ⟨x, H1, I1, r1, q1⟩ => wpAny_bind (wpAny_holding (wpAny_Slice ?_))))
  rw [evalPart_none]
  refine wpAny_pure ?_
  rw [evalPart_some]
  refine thn (hh.run pins s1 σ H1 _ I1 q1) fun vu s2 ⟨y, H2, I2, r2, p, q, xs, ys, c, ex, ev, ey, hp, hq, hpq, c0, c1, hz, k⟩ => ?_
  subst ex
  subst ev
  subst ey
  obtain rfl : ov = Value.ref p := r1
  obtain rfl : u = Value.ref q := r
  obtain ⟨tk, rfl⟩ := r2
  obtain ⟨n, rfl⟩ := Int.eq_ofNat_of_zero_le c0
  refine wpAny_pure ?_
  have I3 : Inv X pins σ H2 { s2 with heap := s2.heap.push { cls := .type "slice", data := .fields #[.none, .int n tk, .none] } } := I2.kept (t' := s2.toks) fun b ob z => Heap.get?_push_of_some _ z
  obtain ⟨z, its, n1, rl, hl, e⟩ := I3.lstM hp
  obtain ⟨z2, its2, n2, rl2, hl2, e2⟩ := I3.lstM hq
  refine wpAny_bind (wpAny_standAt (wpAny_bind (wpAny_holding (set_to e e2 hpq (Heap.IsSliceOf.new ..) (.int _ _) (by rw [List.size_toArray]; omega) (by rw [List.size_toArray, List.size_toArray]; omega) (wpAny_release ⟨σ, _, I3.lset (its' := its2 ++ its.drop n) (t' := s2.toks) hp e ?_ (rl2.append (rl.drop _)) ?_, k⟩)))))
  · have q := splice_eq its its2 0 n
    rw [List.take_zero, List.nil_append] at q
    exact q
  · rw [List.length_append, List.length_drop]
    omega⟩
end
section
variable {K : PySem.W.Frag} {H0 H : Hp} {S : List Addr} {L : List (Addr × Ent)} {I : List (V × PyData)} {p q : Addr} {xs ys : List Int} {c : Int}
theorem h_slTo {Q : Hp → Prop} (n m : Nat) (h : Led K H0 S H L I) (e : L[n]? = some (p, .raw (.lst (xs.map V.int)))) (e2 : L[m]? = some (q, .raw (.lst (ys.map V.int)))) (hnm : n ≠ m) (hs : H0 p = none ∨ p ∈ S) (c0 : 0 ≤ c) (c1 : c ≤ xs.length) (hz : xs.length + ys.length ≤ sizeLine)
    (k : ∀ H', Led K H0 S H' (L.set n (p, .raw (.lst ((ys ++ xs.drop c.toNat).map V.int)))) I → Q H') : slToK (.ref p) (.int c) (.ref q) H Q :=
  ⟨p, q, _, _, c, rfl, rfl, rfl, h.raw n e, h.raw m e2, h.ne n m e e2 hnm, c0, by rw [List.length_map]; exact c1, by rw [List.length_map, List.length_map]; exact hz, by
    rw [← List.map_drop, ← List.map_append]
    exact k _ (h.wr n e (fun b o q hb => by rw [upd_ne (by simpa using hb)]; exact q) (h.raw n e) rfl upd_same hs)⟩
end

section
open PySem PySem.Spec PyProof.Rows L2 NdefX L2H
/-! ### own exceptions whose __init__ begins with super().__init__(..) -/
structure FunS (P : Program) (K : PySem.W.Frag) (C : Addr) (qual : Str) (st : Stmt) (f : Addr) (fd : FuncData) : Prop where
  ex : ∃ (oc : Value) (od : Option Addr) (kV doc pm : Value) (an : Option Addr) (c cc : Addr) (ct : Value) (osl : Array (Option Value)) (ccl cl : Value) (cdd cld : Option Addr) (vs : Array Value) (ccs csl : Array (Option Value)) (file : Str) (tf : Tok) (cd : ClassData),
    fd = PySem.W.fnX "__init__" qual (defArgs st) (defBody st) (defScope st) [("__class__", cc)] .none kV doc pm an (.ref c) ct ∧ K.lookup f = some ⟨oc, od, .func fd, osl⟩ ∧ PySem.W.codeIn K (.ref c) qual = true ∧
    K.lookup c = some ⟨ccl, cdd, .fields vs, ccs⟩ ∧ vs[2]? = some (.str file tf) ∧ ((P.main.file : Str) == file) = true ∧
    K.lookup cc = some ⟨cl, cld, .cell (some (.ref C)), csl⟩ ∧ PySem.W.clsIn K C = some cd
  sub : PySem.W.mroIn K C (.ref C) = some true
  meth : PySem.W.ks_superIn K C C "__init__" = some (some (.builtin "ValueError.__init__"))
  ve : PySem.W.subIn K (.ref C) (.type "ValueError") = some true
  opq : PySem.W.nsIn K cStatics "thirdparty.any" = some none
  top : (P.main.scope.names.lookup ("super" : Str)).isSome = false
section
variable {X : Cx} {pins : List (Addr × Obj)} {σ : L2.St} {H : Hp} {s : Shared} {a u C : Addr} {us : List Value} {Q : Value → Shared → Prop} {E : Value → Shared → Prop} {A : Around}
/-- ValueError.__init__ bound to the exception, called: nothing of it is told -/
theorem mw_init (T : OexC X.K C) (I : Inv X pins σ H s) (e : H a = some (exo a C none)) (hu : s.heap.get? u = some (PySem.W.kxs_mw "ValueError.__init__" a)) (hl : us.length ≤ sizeLine) (h : ∀ s', Inv X pins σ H s' → Q .none s') :
    wpAny (model X.prog X.w) A (call (.ref u) us) Q E s := by
  obtain ⟨nm, q, N, bs, bm, sn, sub, ab, col, dd, k0, k1, k2, k3, k5, hC, hbm⟩ := T.cls
  obtain ⟨t1, ho⟩ := exo_at I.hok e
  obtain ⟨hp, g, d, t, os⟩ := s
  refine wpAny_call (codeAny_of_tree ?_)
  show wpAny _ A.in1 (callAny (.ref u) ⟨us, []⟩) _ _ _
  simp only [callAny]
  refine wpAny_bind (wpAny_load hu ?_)
  simp only [PySem.W.kxs_mw, show (Value.type "method-wrapper" == Value.type "method" || Value.type "method-wrapper" == Value.type "builtin_function_or_method" || Value.type "method-wrapper" == Value.type "method-wrapper") = true by decide, if_true]
  refine PySem.W.KFB.if_so (by decide) ?_
  refine wpAny_bind (PySem.W.check_bound_init PySem.F.excBase_ValueError.toExcCallFacts (I.kIn _ _ hC) ho rfl ?_)
  refine wpAny_bind (wpAny_pure (wpAny_pure ?_))
  refine ⟨plainId_quiet PySem.F.excBase_ValueError.init.plain _, codeAny_builtin PySem.F.excBase_ValueError.initEntry ?_⟩
  refine PySem.W.exc_init_tree (cls := .ref C) (t0 := t1) (dv := none) (c2 := .none) (c3 := .none) (b4 := .bool false) ho hl fun h' k hx _ => ?_
  have J := I.write (t' := t) (x := a) (e := a) (o := exo a C none) (by rw [e]; exact True.intro) (.inl rfl) k ⟨_, hx⟩ (exo_ok hx)
  have eu : upd H a (exo a C none) = H := by
    funext b
    by_cases hb : b = a
    · rw [hb, upd_same, e]
    · rw [upd_ne hb]
  rw [eu] at J
  exact h _ J
end
section
variable {P : Program} {w : World} {K : PySem.W.Frag} {mg : Str → Option Value} {base : Heap} {CX : CXT} {C f : Addr} {fd : FuncData} {qual : Str} {st : Stmt} {N ps : List Str} {k : Nat} {sp : Sp} {ar : Arg} {e : Expr} {es : List Expr} {rest : List Stmt} {p0 p1 p2 p3 p4 : Pos}
/-- the body's context of such an __init__ (calm or not) -/
abbrev scx (cm : Bool) (pn : List (Addr × Obj)) (CX : CXT) (P : Program) (w : World) (K : PySem.W.Frag) (mg : Str → Option Value) (base : Heap) (N : List Str) (qual : Str) (st : Stmt) (c cc f : Addr) (A : Around) (outer : List Env) (s : Shared) (H : Hp) (E : XK) : Cx :=
  { ncx CX P w K mg base N ⟨"__init__", qual, defArgs st, defBody st, defScope st, [("__class__", cc)], c⟩ f A outer s H E with calm := cm, pn := pn }
/-- what is wanted of the body -/
def SupBody (cm : Bool) (pn : List (Addr × Obj)) (CX : CXT) (P : Program) (w : World) (K : PySem.W.Frag) (mg : Str → Option Value) (base : Heap) (N : List Str) (qual : Str) (st : Stmt) (C f : Addr) (e : Expr) (es : List Expr) (rest : List Stmt) (A : Around) (outer : List Env) (s : Shared) (H : Hp) (vs : List V) (Q : VK) (E : XK) : Prop :=
  ∀ c cc : Addr, ∃ (ta : TA) (t : TS), PA (scx cm pn CX P w K mg base N qual st c cc f A outer s H E) (e :: es) ta ∧ PSs (scx cm pn CX P w K mg base N qual st c cc f A outer s H E) rest t ∧
    ∃ a, OexC K C ∧ vs.head? = some (.ref a) ∧ H a = some (exo a C none) ∧ ta (startF N vs [some (.ref C)]) H fun ws H1 => ws.length ≤ 1000 ∧ H1 a = some (exo a C none) ∧ t { nx := fun _ H' => Q .non H', rt := Q } (startF N vs [some (.ref C)]) H1
theorem sup_core {cm : Bool} {pn : List (Addr × Obj)} {A : Around} {outer : List Env} {s : Shared} {H : Hp} {args : Args} {us : List Value} {vs : List V} {Q : VK} {E : XK} (F : FunS P K C qual st f fd) (S : NScope N ps ["__class__"] (defScope st)) (hmg : mg "super" = none)
    (hst : defBody st = .Expr (.Call (.Attribute (.Call (.Name "super" p0) [] [] p1) "__init__" p2) (e :: es) [] p3) p4 :: rest)
    (har : ((defArgs st).posonlyargs ++ (defArgs st).args).head? = some ar) (hN : N[0]? = some ar.arg) (hka : (defScope st).names.lookup ar.arg = some .local) (hks : (defScope st).names.lookup ("super" : Str) = some .globalImplicit) (hkc : (defScope st).names.lookup ("__class__" : Str) = some .free)
    (hcall : ∀ env, ∃ pl, eval (.Call (.Attribute (.Call (.Name "super" p0) [] [] p1) "__init__" p2) (e :: es) [] p3) env = (do
      let ov ← attributeBase (.Call (.Name "super" p0) [] [] p1) "__init__" env (eval (.Call (.Name "super" p0) [] [] p1) env)
      standAt p2.atName
      let (f, first) ← holding [ov] (getMethod ov "__init__" pl)
      callWith p3 f first (backTo p3 (starEach (e :: es) env)) []))
    (hint : ∀ L c cc, interactive (PySem.W.envX qual (defScope st) L f (.ref c) [("__class__", cc)]) = false)
    (he : ∀ env, starEach (e :: es) env = (false, eval e env) :: starEach es env) (hpl : ∀ env, (backTo p3 (starEach es env)).any (·.1) = false)
    (hdep : A.depth < recursionLimit) (e0 : Env0 P w K mg base A outer s H) (hb : BindsTo s fd args (ps.zip us)) (hl : vs.length = ps.length) (r : Vals vs us)
    (hI : ∀ (c cc : Addr) (h₁ : Heap) (tk : Nat), CellsAt [("__class__", cc)] ["__class__"] [some (.ref C)] s.heap H → (h₁.Ns s.heap.objs.size fun y => (ps.zip us).reverse.lookup y) → (∀ b o, s.heap.get? b = some o → h₁.get? b = some o) →
      Inv (scx cm pn CX P w K mg base N qual st c cc f A outer s H E) [] (startF N vs [some (.ref C)]) H { s with heap := h₁, toks := tk })
    (hbody : SupBody cm pn CX P w K mg base N qual st C f e es rest A outer s H vs Q E) : codeAny (model P w) A (.call (.ref f) args) (CR CX outer P w H s Q E) s := by
  obtain ⟨oc, od, kV, doc, pm, an, c, cc, ct, osl, ccl, cl, cdd, cld, fvs, ccs, csl, file, tf, cd, rfl, lk, hcd, hco, hvs, hfile, hcell, hcls⟩ := F.ex
  have KX : K.In s.heap := e0.mod.kin.keeps fun b o e => (e0.bs b o e).1
  have lim : s.heap.NoLimit := e0.mod.nolimit.keeps fun b o e => (e0.bs b o e).1
  refine codeAny_call_function hdep (KX _ _ lk) rfl S.co S.gen rfl (PySem.W.codeRec_of KX hcd) (hb _ _ _ _ ?_)
  refine wpAny_newFunctionEnv S.nocell (fun ⟨n, _⟩ hy => S.par n (List.of_mem_zip hy).1) (fun h₁ hns hsb => ⟨lim.fresh _ hsb, ?_⟩) S.kind
  show codeAny _ _ (.func (defBody st) (PySem.W.envX qual (defScope st) s.heap.objs.size f (.ref c) [("__class__", cc)])) _ _
  have kp : ∀ b o, s.heap.get? b = some o → h₁.get? b = some o := fun b o e => hsb.extBut b o (Nat.ne_of_lt (Heap.lt_size e)) (Heap.get?_push_of_some _ e)
  obtain ⟨ta, t, hta, ht, a, T, hhd, ha, hq⟩ := hbody c cc
  have C0 : CellsAt [("__class__", cc)] ["__class__"] [some (.ref C)] s.heap H := by
    have one : ∀ {y : Str} {b : Addr}, List.lookup y [(("__class__" : Str), cc)] = some b → y = "__class__" ∧ b = cc := fun {y b} z => by
      by_cases q : y = "__class__"
      · subst q
        simp [List.lookup] at z
        exact ⟨rfl, z.symm⟩
      · have e : (y == ("__class__" : Str)) = false := by simpa using q
        simp [List.lookup, e] at z
    refine ⟨rfl, fun y b z => ?_, fun x y b h1 h2 => (one h1).1.trans (one h2).1.symm, fun i y z => ?_⟩
    · obtain ⟨_, rfl⟩ := one z
      exact ⟨(e0.bs _ _ (e0.mod.kin _ _ hcell)).2, _, _, KX _ _ hcell, rfl⟩
    · match i, z with
      | 0, z =>
        cases z
        refine ⟨cc, by simp [List.lookup], fun v hv => ?_⟩
        cases hv
        exact ⟨.ref C, rfl, _, KX _ _ hcell, rfl⟩
      | i + 1, z => exact nomatch z
  have I : Inv (scx cm pn CX P w K mg base N qual st c cc f A outer s H E) [] (startF N vs [some (.ref C)]) H { s with heap := h₁, toks := s.toks + (ps.zip us).length } := hI c cc h₁ _ C0 hns kp
  have fin : ∀ {σ' : L2.St} {H' : Hp} {v : V} {u : Value} {s' : Shared}, Inv (scx cm pn CX P w K mg base N qual st c cc f A outer s H E) [] σ' H' s' → L2.RelV v u → Q v H' → CE outer P w H s Q u s' :=
    fun {σ' H' v u s'} J rv q => ⟨v, H', J.os, J.bare, J.base, J.hok, rv, q⟩
  generalize hs1 : ({ s with heap := h₁, toks := s.toks + (ps.zip us).length } : Shared) = s1 at I ⊢
  rw [hst]
  obtain ⟨pl, hcl⟩ := hcall (PySem.W.envX qual (defScope st) s.heap.objs.size f (.ref c) [("__class__", cc)])
  have hin := hint s.heap.objs.size c cc
  refine PySem.ks_codeAny_funcAt (PySem.ks_wpAt_execs_cons (PySem.ks_wpAt_Expr_any (PySem.ks_wpAt_MethodCall (pl := pl) ?_ hcl) hin))
  obtain ⟨oD, hD1, hD2⟩ : ∃ oD, s1.heap.get? C = some oD ∧ oD.data = .cls cd := by
    unfold PySem.W.clsIn at hcls
    split at hcls
    · rename_i c d cd' sl ho
      cases hcls
      exact ⟨_, I.kIn _ _ ho, rfl⟩
    · cases hcls
  obtain ⟨m, hnm, hlook⟩ := id I.loc
  have hs0 : (startF N vs [some (.ref C)])[0]? = some (some (.ref a)) := by
    cases vs with
    | nil => exact nomatch hhd
    | cons v vs =>
      cases hhd
      rfl
  obtain ⟨us0, ru, lu⟩ := hlook 0 ar.arg (.ref a) hN hs0 (.inl hka)
  cases ru
  have hself : m ar.arg = some (.ref a) := by
    rcases lu with ⟨_, lu⟩ | ⟨lu, _⟩
    · exact lu
    · have lu : (defScope st).names.lookup ar.arg = some .cell ∨ (defScope st).names.lookup ar.arg = some .free := lu
      rw [hka] at lu
      rcases lu with lu | lu <;> exact nomatch lu
  obtain ⟨mb, hmb1, hmb2⟩ := I.mod.blt
  obtain ⟨t1, hoa⟩ := exo_at I.hok ha
  refine PySem.ks_wpAt_super_base (env := PySem.W.envX qual (defScope st) s.heap.objs.size f (.ref c) [("__class__", cc)]) hks hkc rfl rfl (I.kIn _ _ lk) rfl har rfl (I.kIn _ _ hco) rfl hvs hfile F.top ?_
  refine PySem.W.ks_loadName_global S.kind hks (Calls.loadGlobal_builtin (env := PySem.W.envX qual (defScope st) s.heap.objs.size f (.ref c) [("__class__", cc)]) (I.mod.glob.keeps I.bk) hmg (hmb1.keeps I.bk) ((hmb2 _ (by decide)).trans (by decide +kernel)) ⟨rfl, ?_⟩)
  refine wpAny_loadName_free S.kind hkc rfl ⟨_, I.kIn _ _ hcell, rfl⟩ ?_
  refine wpAny_loadName_local S.kind hka hnm hself ?_
  refine PySem.ks_wpAny_isType_cls hD1 hD2 ⟨rfl, ?_⟩
  obtain ⟨hp1, g1, d1, tk1, os1⟩ := s1
  refine PySem.ks_wpAny_call_super hD1 hD2 hoa rfl (fun c z => nomatch z) (PySem.W.looks_mroIn I.kIn F.sub) fun h2 hso k2 => ?_
  have I2 : Inv (scx cm pn CX P w K mg base N qual st c cc f A outer s H E) [] (startF N vs [some (.ref C)]) H ⟨h2, g1, d1, tk1, os1⟩ := I.kept (t' := tk1) k2
  obtain ⟨t2, hoa2⟩ := exo_at I2.hok ha
  have IA : PySem.W.InstAt h2 a { cls := .ref C, dict := none, data := .fields #[.ref t2, .none, .none, .none, .bool false, .none] } C none := ⟨hoa2, rfl, rfl, trivial⟩
  have hm := F.meth
  unfold PySem.W.ks_superIn at hm
  rw [hcls] at hm
  refine PySem.W.kxs_getMethod PySem.W.kxs_ValueError hso (PySem.W.looks_opaque I2.kIn F.opq) (l₀ := cd.mro) (fun A Q E s k q => wpAny_bind ((PySem.W.looks_clsIn I2.kIn hcls) A _ E s k (wpAny_pure q))) rfl I2.kIn hm (IA.type.andThen (PySem.W.looks_subIn I2.kIn F.ve)) (PySem.W.ks_ne I2.kIn IA hcls) rfl ?_
  have hsz : h2.objs.size ≤ h2.objs.size := Nat.le_refl _
  have k3 : ∀ b o, h2.get? b = some o → (h2.push (PySem.W.kxs_mw "ValueError.__init__" a)).get? b = some o := fun b o z => Heap.get?_push_of_some _ z
  have hu : (h2.push (PySem.W.kxs_mw "ValueError.__init__" a)).get? h2.objs.size = some (PySem.W.kxs_mw "ValueError.__init__" a) := Heap.get?_push_at rfl rfl
  have I3 : Inv (scx cm pn CX P w K mg base N qual st c cc f A outer s H E) [] (startF N vs [some (.ref C)]) H ⟨h2.push (PySem.W.kxs_mw "ValueError.__init__" a), g1, d1, tk1 + 1, os1⟩ := I2.kept (t' := tk1 + 1) k3
  have I4 : Inv (scx cm pn CX P w K mg base N qual st c cc f A outer s H E) [(h2.objs.size, PySem.W.kxs_mw "ValueError.__init__" a)] (startF N vs [some (.ref C)]) H ⟨h2.push (PySem.W.kxs_mw "ValueError.__init__" a), g1, d1, tk1 + 1, os1⟩ := I3.pins_of fun p hp => by
    cases List.mem_singleton.mp hp
    exact ⟨hu, I2.hok.fresh hsz, fun z => Nat.lt_irrefl _ (Nat.lt_of_lt_of_le I2.lt (Nat.le_of_eq z)), I2.nofs hsz, fun v z => nomatch z⟩
  show wpAny _ _ (callWith p3 (.ref h2.objs.size) [] (backTo p3 (starEach (e :: es) (PySem.W.envX qual (defScope st) s.heap.objs.size f (.ref c) [("__class__", cc)]))) []) _ _ _
  have hrun := hta.run p3 _ _ _ _ _ I4 hq
  have hpl1 := hpl (PySem.W.envX qual (defScope st) s.heap.objs.size f (.ref c) [("__class__", cc)])
  have hrun : wpAny _ _ (spliced (backTo p3 (starEach (e :: es) (PySem.W.envX qual (defScope st) s.heap.objs.size f (.ref c) [("__class__", cc)])))) _ _ _ := hrun
  rw [he] at hrun ⊢
  refine PySem.W.kxs_callWith (i := "ValueError.__init__") (x := a) (by show (false || (backTo p3 (starEach es _)).any (·.1)) = false; rw [hpl1]; rfl) (PySem.Calls.evalArgs_plain (thn hrun fun us5 s5 h5 => ?_))
  obtain ⟨ws, H1, I5, rw5, hlen, ha1, q1⟩ := h5
  have hpin := (I5.pin (h2.objs.size, PySem.W.kxs_mw "ValueError.__init__" a) (List.mem_append_right _ List.mem_cons_self)).1
  refine ⟨hpin, mw_init T I5 ha1 hpin (by show us5.length ≤ sizeLine; rw [← Paired.length rw5, sizeLine_eq]; omega) fun s6 I6 => ?_⟩
  refine PySem.wpAt_of_wpAny (wpAny_mono (ht.run [] s6 _ _ _ (I6.pins_of fun p hp => nomatch hp) q1) (fun fl s' hs => ?_) fun _ _ x => x)
  cases fl with
  | ret u =>
    obtain ⟨v, σ', H', J, rv, q⟩ := hs
    exact fin J rv q
  | next =>
    obtain ⟨σ', H', J, q⟩ := hs
    exact fin (v := V.non) (u := Value.none) J rfl q
  | brk =>
    obtain ⟨_, _, _, q⟩ := hs
    exact False.elim q
  | cont =>
    obtain ⟨_, _, _, q⟩ := hs
    exact False.elim q
/-- such an __init__ called where nothing is handled -/
theorem okSup (F : FunS P K C qual st f fd) (S : NScope N ps ["__class__"] (defScope st)) (hmg : mg "super" = none) (len : ∀ vs H Q E, sp vs H Q E → vs.length = ps.length)
    (hst : defBody st = .Expr (.Call (.Attribute (.Call (.Name "super" p0) [] [] p1) "__init__" p2) (e :: es) [] p3) p4 :: rest)
    (har : ((defArgs st).posonlyargs ++ (defArgs st).args).head? = some ar) (hN : N[0]? = some ar.arg) (hka : (defScope st).names.lookup ar.arg = some .local) (hks : (defScope st).names.lookup ("super" : Str) = some .globalImplicit) (hkc : (defScope st).names.lookup ("__class__" : Str) = some .free)
    (hbody : ∀ (A : Around) (outer : List Env) (s : Shared) (H : Hp) (vs : List V) (Q : VK) (E : XK), sp vs H Q E → SupBody true [] CX P w K mg base N qual st C f e es rest A outer s H vs Q E)
    (hcall : ∀ env, ∃ pl, eval (.Call (.Attribute (.Call (.Name "super" p0) [] [] p1) "__init__" p2) (e :: es) [] p3) env = (do
      let ov ← attributeBase (.Call (.Name "super" p0) [] [] p1) "__init__" env (eval (.Call (.Name "super" p0) [] [] p1) env)
      standAt p2.atName
      let (f, first) ← holding [ov] (getMethod ov "__init__" pl)
      callWith p3 f first (backTo p3 (starEach (e :: es) env)) []) := by intro _; exact ⟨_, rfl⟩)
    (hint : ∀ L c cc, interactive (PySem.W.envX qual (defScope st) L f (.ref c) [("__class__", cc)]) = false := by intro _ _ _; rfl)
    (he : ∀ env, starEach (e :: es) env = (false, eval e env) :: starEach es env := by intro _; rfl) (hpl : ∀ env, (backTo p3 (starEach es env)).any (·.1) = false := by intro _; rfl) :
    FnOk P w K mg base CX (k + 1) f fd ps sp :=
  ⟨len, fun A outer s H args us vs Q E hr e0 hb r hsp => sup_core F S hmg hst har hN hka hks hkc hcall hint he hpl hr.depth e0 hb (len _ _ _ _ hsp) r (fun c cc h₁ tk C0 hns kp => inv_startN S hr.hd e0 (len _ _ _ _ hsp) r C0 hns kp) (hbody A outer s H vs Q E hsp)⟩
/-- .. called where an exception is handled -/
theorem okSupH (F : FunS P K C qual st f fd) (S : NScope N ps ["__class__"] (defScope st)) (hmg : mg "super" = none) (len : ∀ vs H Q E, sp vs H Q E → vs.length = ps.length)
    (hst : defBody st = .Expr (.Call (.Attribute (.Call (.Name "super" p0) [] [] p1) "__init__" p2) (e :: es) [] p3) p4 :: rest)
    (har : ((defArgs st).posonlyargs ++ (defArgs st).args).head? = some ar) (hN : N[0]? = some ar.arg) (hka : (defScope st).names.lookup ar.arg = some .local) (hks : (defScope st).names.lookup ("super" : Str) = some .globalImplicit) (hkc : (defScope st).names.lookup ("__class__" : Str) = some .free)
    (hbody : ∀ (A : Around) (outer : List Env) (s : Shared) (H : Hp) (vs : List V) (Q : VK) (E : XK) (p : Addr × Obj), sp vs H Q E → SupBody false [p] CX P w K mg base N qual st C f e es rest A outer s H vs Q E)
    (hcall : ∀ env, ∃ pl, eval (.Call (.Attribute (.Call (.Name "super" p0) [] [] p1) "__init__" p2) (e :: es) [] p3) env = (do
      let ov ← attributeBase (.Call (.Name "super" p0) [] [] p1) "__init__" env (eval (.Call (.Name "super" p0) [] [] p1) env)
      standAt p2.atName
      let (f, first) ← holding [ov] (getMethod ov "__init__" pl)
      callWith p3 f first (backTo p3 (starEach (e :: es) env)) []) := by intro _; exact ⟨_, rfl⟩)
    (hint : ∀ L c cc, interactive (PySem.W.envX qual (defScope st) L f (.ref c) [("__class__", cc)]) = false := by intro _ _ _; rfl)
    (he : ∀ env, starEach (e :: es) env = (false, eval e env) :: starEach es env := by intro _; rfl) (hpl : ∀ env, (backTo p3 (starEach es env)).any (·.1) = false := by intro _; rfl) :
    FnH P w K mg base CX (k + 1) f fd ps sp := by
  refine ⟨len, fun A outer s H args us vs Q E p hr hot hp e0 hb r hsp => sup_core F S hmg hst har hN hka hks hkc hcall hint he hpl hr.depth e0 hb (len _ _ _ _ hsp) r (fun c cc h₁ tk C0 hns kp => ?_) (hbody A outer s H vs Q E p hsp)⟩
  have e1 : Env0 P w K mg base { A with handled := none } outer s H := ⟨e0.frames, e0.mod, e0.bs, e0.bsz, e0.funs, e0.frf, e0.hok, e0.bare⟩
  have I0 := inv_startN (CX := CX) (f := f) (F := ⟨"__init__", qual, defArgs st, defBody st, defScope st, [("__class__", cc)], c⟩) (E := E) (tk := tk) S rfl e1 (len _ _ _ _ hsp) r C0 hns kp
  refine ⟨⟨I0.ok.mod, I0.ok.kind, I0.ok.glob, I0.ok.blt, I0.ok.above, I0.ok.inj, I0.ok.has, I0.ok.cab, (fun z => nomatch z), Around.frames_deeper e0.frames, I0.ok.stk, I0.ok.exf, I0.ok.bs, I0.ok.bsz, I0.ok.noex, I0.ok.exfs, I0.ok.funs, I0.ok.frf⟩,
    I0.os, I0.bare, I0.base, I0.loc, I0.cell, I0.free, I0.freeC, fun q hq => ?_, I0.hok, I0.len⟩
  cases List.mem_singleton.mp hq
  exact ⟨kp _ _ hp.get, hp.free, fun z => Nat.lt_irrefl _ (Nat.lt_of_lt_of_le (Heap.lt_size hp.get) (Nat.le_of_eq z.symm)), hp.nofs, hp.nocell⟩
end
/-! ### such exceptions made, raised, asked -/
/-- the promise of such an __init__: its parameters become fields -/
def spX (K : PySem.W.Frag) (C : Addr) (fs : List Str) : Sp := fun vs H Q _ => ∃ (a : Addr) (ws : List V), vs = .ref a :: ws ∧ ws.length = fs.length ∧ (∀ v ∈ ws, (∃ y : Str, v = .str y ∧ y.length ≤ 1000) ∨ ∃ i : Int, v = .int i ∧ i.natAbs.log2 < 1920) ∧ OexC K C ∧ (∀ f ∈ fs, PySem.W.findIn K (.ref C) f = some none) ∧ H a = some (exo a C none) ∧
  ∀ dx, H dx = none → dx ≠ a → Q .non (upd (upd H dx (exd dx (fs.zip ws).reverse)) a (exo a C (some dx)))
/-- C(e, ..) raised: the reading -/
def mkX (C : Addr) (fs : List Str) (vs : List V) (H1 : Hp) (Q : XK) : Prop := vs.length = fs.length ∧ (∀ v ∈ vs, (∃ y : Str, v = .str y ∧ y.length ≤ 1000) ∨ ∃ i : Int, v = .int i ∧ i.natAbs.log2 < 1920) ∧ vs.length ≤ 10 ∧ ∀ d, H1 d = none → Q (.ref C) (some d) (upd H1 d (.xd (fs.zip vs).reverse))
def mRaiseX (C : Addr) (fs : List Str) (W : WX) (ta : TA) : TS := fun _ σ H => ta σ H fun vs H1 => mkX C fs vs H1 fun cls d H' => W cls d σ H'
def upTA (ta : TA) : TA := fun σ H R' => ∃ R, ta σ H R ∧ ∀ vs H, R vs H → R' vs H
theorem mkX_to {K : PySem.W.Frag} {C : Addr} {fs : List Str} {ta : TA} {σ : L2.St} {H : Hp} {Q : XK} (T : OexC K C) (hf : ∀ f ∈ fs, PySem.W.findIn K (.ref C) f = some none) (h : ta σ H fun vs H1 => mkX C fs vs H1 Q) : tMkO C (spX K C fs) [] (upTA ta) σ H Q :=
  ⟨_, h, fun vs H1 q => by
    obtain ⟨q1, q2, q3, q4⟩ := q
    refine ⟨by omega, fun a ha => ⟨a, vs, by rw [List.append_nil], q1, q2, T, hf, upd_same, fun dx hd hda => ⟨rfl, dx, (fs.zip vs).reverse, upd_same, ?_, ?_, ?_⟩⟩⟩
    · rw [upd_ne hda, upd_same]
    · rw [upd_ne hda] at hd
      exact hd
    · have e : upd (del (upd (upd (upd H1 a (exo a C none)) dx (exd dx (fs.zip vs).reverse)) a (exo a C (some dx))) a) dx (.xd (fs.zip vs).reverse) = upd H1 dx (.xd (fs.zip vs).reverse) := by
        funext b
        by_cases h1 : b = dx
        · rw [h1, upd_same, upd_same]
        · rw [upd_ne h1, upd_ne h1]
          by_cases h2 : b = a
          · rw [h2, del_same, ha]
          · rw [del_ne h2, upd_ne h2, upd_ne h1, upd_ne h2]
      rw [e]
      rw [upd_ne hda] at hd
      exact q4 dx hd⟩
section
variable {X : Cx} {C fI : Addr} {fs : List Str} {W : WX} {x : Str} {e : Expr} {es : List Expr} {ta : TA} {p pos pos2 : Pos} {k : Nat} {fd : FuncData} {ps : List Str}
theorem pa_up (ha : PA X es ta) : PA X es (upTA ta) := ⟨fun pos pins s σ H Q I h => by
  obtain ⟨R, h1, h2⟩ := h
  exact wpAny_mono (ha.run pos pins s σ H R I h1) (fun us s' ⟨vs, H', I', rv, q⟩ => ⟨vs, H', I', rv, h2 _ _ q⟩) fun _ _ z => z⟩
/-- raise C(e, ..) -/
theorem p_raiseX (hc : X.calm = true) (tk : Takes X W) (T : OexC X.K C) (hf : ∀ f ∈ fs, PySem.W.findIn X.K (.ref C) f = some none) (iC : PySem.W.findIn X.K (.ref C) "__init__" = some (some (.ref fI))) (tI : PySem.W.typeIn X.K (.ref fI) = some (.type "function"))
    (F1 : FnOk X.prog X.w X.K X.mg X.base CX0 k fI fd ps (spX X.K C fs)) (hr : Room (k + 1) X.A) (hb : Binds X.K fd ps []) (hg : Gl X x) (hm : X.mg x = some (.ref C)) (ha : PA X (e :: es) ta)
    (hdb : (x == ("__debug__" : Str)) = false := by decide) (he : starEach (e :: es) X.env = (false, eval e X.env) :: starEach es X.env := by rfl) (hpl : (backTo pos (starEach es X.env)).any (·.1) = false := by rfl) :
    PS X (.Raise (some (.Call (.Name x p) (e :: es) [] pos)) none pos2) (mRaiseX C fs W ta) := ⟨fun pins s σ H D I h =>
  (ps_raise hc tk (pmk_oex T iC tI F1 hr hb .nil (fun _ _ _ _ _ _ _ z => z.elim) hg hm (pa_up ha) hdb he hpl)).run pins s σ H D I (mkX_to T hf h)⟩
/-- .. where an exception is handled -/
theorem p_raiseXH (hc : HotC X) (tk : Takes X W) (T : OexC X.K C) (hf : ∀ f ∈ fs, PySem.W.findIn X.K (.ref C) f = some none) (iC : PySem.W.findIn X.K (.ref C) "__init__" = some (some (.ref fI))) (tI : PySem.W.typeIn X.K (.ref fI) = some (.type "function"))
    (F1 : FnH X.prog X.w X.K X.mg X.base CX0 k fI fd ps (spX X.K C fs)) (hr : RoomH (k + 1) X.A) (hb : Binds X.K fd ps []) (hg : Gl X x) (hm : X.mg x = some (.ref C)) (ha : PA X (e :: es) ta)
    (hdb : (x == ("__debug__" : Str)) = false := by decide) (he : starEach (e :: es) X.env = (false, eval e X.env) :: starEach es X.env := by rfl) (hpl : (backTo pos (starEach es X.env)).any (·.1) = false := by rfl) :
    PS X (.Raise (some (.Call (.Name x p) (e :: es) [] pos)) none pos2) (mRaiseX C fs W ta) := ⟨fun pins s σ H D I h =>
  (ps_raiseH hc tk (pmk5_oexH T iC tI F1 hr hc hb (fun _ _ _ _ _ _ _ z => z.elim) hg hm (pa_up ha) hdb he hpl).pmk).run pins s σ H D I (mkX_to T hf h)⟩
end

end

section
open PySem PySem.Spec PyProof.Rows L2 GxR
/-! ### any(test for x in a list of ints) -/
/-- the element: a test of the int; what stands in base may be asked -/
def EltI (prog : Program) (w : World) (base : Heap) (scope : Scope) (x : Str) (elt : Expr) (pb : Int → Bool) : Prop :=
  ∀ (cenv : Env) (A' : Around) (E' : Value → Shared → Prop) (n : Int) (t : Tok) (s₂ : Shared) (m₂ : Str → Option Value), cenv.scope = scope → cenv.globals = mainGlobals → (∀ b o, base.get? b = some o → s₂.heap.get? b = some o) → s₂.heap.Ns cenv.locals m₂ → m₂ x = some (.int n t) →
    wpAny (model prog w) A' (eval elt cenv) (fun y s₃ => y = .bool (pb n) ∧ Keeps s₂ s₃) E' s₂
def trI (pb : Int → Bool) (l : List Int) (j : Nat) : Bool := match l[j]? with
  | some b => pb b
  | none => false
theorem trI_some {pb : Int → Bool} {l : List Int} {j : Nat} {b : Int} (h : l[j]? = some b) : trI pb l j = pb b := by
  unfold trI
  rw [h]
theorem any_trI (l : List Int) (pb : Int → Bool) : (List.range l.length).any (trI pb l) = l.any pb := by
  rw [Bool.eq_iff_iff, List.any_eq_true, List.any_eq_true]
  refine ⟨fun ⟨j, hj, h⟩ => ?_, fun ⟨b, hb, h⟩ => ?_⟩
  · have hj' := List.mem_range.mp hj
    rw [trI_some (List.getElem?_eq_getElem hj')] at h
    exact ⟨_, List.getElem_mem hj', h⟩
  · obtain ⟨j, hj, e⟩ := List.getElem_of_mem hb
    exact ⟨j, List.mem_range.mpr hj, by rw [trI_some (List.getElem?_eq_getElem hj), e]; exact h⟩
section
variable {X : Cx} {pins : List (Addr × Obj)} {σ : L2.St} {H : Hp} {s : Shared}
def ReadyI (X : Cx) (pins : List (Addr × Obj)) (σ : L2.St) (H1 : Hp) (P : Addr) (ns : List Int) (pb : Int → Bool) (g : Addr) (s5 : Shared) : Prop :=
  ∃ (fp wr : List Addr) (G : Array GenState → Array GenState → Prop) (F : Nat → Value → Prop) (St : Nat → Shared → Prop),
    WalksS X.prog X.w X.A.in1 g fp wr G ns.length F St ∧ St 0 s5 ∧ TruthOf X.prog X.w X.A.in1 F (trI pb ns) ∧ ∀ s', Moved wr G s5 s' → ∃ H2, Tabbed P H1 H2 ∧ Inv X pins σ H2 s'
theorem gen_ints {c P : Addr} {elt iter : Expr} {x : Str} {px gpos : Pos} {scope : Scope} {pb : Int → Bool} {te : TE} {k : Nat} {Q' : Value → Shared → Prop} {R : List Int → Hp → Prop}
    (hr : Room k X.A) (TB : TabB X.base X.mg c P) (hcode : X.env.code = .ref c) (S : GenS X.env scope x) (hi : PE X iter te) (hel : EltI X.prog X.w X.base scope x elt pb)
    (hs : ∀ v, genFold iter X.env v = pure v) (I : Inv X pins σ H s) (h : te σ H fun v H1 => ∃ (a : Addr) (ns : List Int), v = .ref a ∧ SqL X.K H1 a (ns.map V.int) ∧ TabG H1 P ∧ R ns H1)
    (hQ : ∀ ns H1 g s5, R ns H1 → ReadyI X pins σ H1 P ns pb g s5 → Q' (.ref g) s5) :
    wpAny (model X.prog X.w) X.A (eval (.GeneratorExp elt [⟨.Name x px, iter, [], 0⟩] scope gpos) X.env) Q' X.xe s := by
  refine wpAny_GeneratorExp_walksQ hr.hd S.co (closure_ok S.free) S.cell S.dot S.loc S.kind (by have := hr.dp; omega) ?_ hs
  refine thn (hi.run pins s σ H _ I h) fun xv s1 ⟨v, H1, I1, r1, q1⟩ => ?_
  obtain ⟨a, ns, rfl, hsq, ⟨ps, hP, ht⟩, q1⟩ := q1
  obtain rfl : xv = .ref a := r1
  obtain ⟨its, rv, hpl, _⟩ := I1.list hsq
  have hl := hpl.isList
  have hln : its.length = ns.length := by rw [← rv.length, List.length_map]
  refine wpAny_pyIter_list hl ?_
  generalize ho : ({ cls := .type "list_iterator", data := .fields #[.ref a, .int 0 0] } : Obj) = o
  have hal : a < s1.heap.objs.size := by obtain ⟨ob, z, _⟩ := id hl; exact Heap.lt_size z
  have hPs : s1.heap.get? P = some { cls := .none, data := .fields ps } := I1.hok P _ hP
  have hPlt : P < s1.heap.objs.size := Heap.lt_size hPs
  have hP2 : (s1.heap.push o).get? P = some { cls := .none, data := .fields ps } := Heap.get?_push_of_some _ hPs
  have cd : PySem.W.CodeHd (s1.heap.push o) c P := TB.code.keeps fun b u e => Heap.get?_push_of_some _ (I1.bk b u e)
  have lim2 : (s1.heap.push o).NoLimit := I1.nolimit.push o
  have hsti : (s1.heap.push o).IsListIter s1.heap.objs.size a 0 := by subst ho; exact ⟨_, Heap.get?_push_size _ rfl, rfl, rfl⟩
  have hstl : (s1.heap.push o).IsList a its.toArray := hl.at fun u e => Heap.get?_push_of_some _ e
  have aP : a ≠ P := fun z => by
    obtain ⟨ob, e1, e2, e3⟩ := id hl
    rw [z, hPs] at e1
    cases e1
    cases e2
  have cont : ∀ (code : Value) (h3 : Heap) (tk : Nat) (ps' : Array Value), Heap.ExtBut P (s1.heap.push o) h3 → (s1.heap.push o).objs.size ≤ h3.objs.size → h3.get? P = some { cls := .none, data := .fields ps' } → (∃ more, ps' = ps ++ more) → TriplesOk ps'.toList →
      wpAny (model X.prog X.w) X.A (builtinsFor X.env.globals X.env.builtins) (fun bi s₄ =>
        ∃ Ia fp wr n₀ Pf St₀ pz F, Value.ref s1.heap.objs.size = .ref Ia ∧ (∀ A' : Around, A'.handled = none → Walks X.prog X.w A' Ia fp wr n₀ Pf St₀) ∧ St₀ 0 s₄.heap ∧ (∀ b ∈ fp, b < s₄.heap.objs.size) ∧ s₄.heap.NoLimit ∧ cStatics ∉ wr ∧
          (∀ href : Heap, (∀ b o, s₄.heap.get? b = some o → href.get? b = some o) →
            QuietGen X.prog X.w (genEnv scope (cloFrom X.env.cells scope.names []) s₄.heap.objs.size code bi X.env) x [] elt (List.range s₄.heap.objs.size) wr Pf pz F href) ∧
          (∀ a h₅ tk gs, gs.bare = true → s₄.heap.objs.size < a → h₅.objs.size = a + 1 → (∀ b o, s₄.heap.get? b = some o → h₅.get? b = some o) →
            WalksS X.prog X.w X.A.in4 a (a :: s₄.heap.objs.size :: List.range s₄.heap.objs.size) (s₄.heap.objs.size :: wr) (GenOnlyQ s₄.gens.size) (passing pz n₀ 0).length
              (fun j y => ∃ i, (passing pz n₀ 0)[j]? = some i ∧ F i y) (GenAt X.prog X.w X.A.in4 a s₄.gens.size s₄.heap.objs.size (List.range s₄.heap.objs.size) wr pz n₀ F) →
            GenAt X.prog X.w X.A.in4 a s₄.gens.size s₄.heap.objs.size (List.range s₄.heap.objs.size) wr pz n₀ F 0 { s₄ with gens := s₄.gens.push gs, toks := tk, heap := h₅ } →
            Q' (.ref a) { s₄ with gens := s₄.gens.push gs, toks := tk, heap := h₅ })) X.xe { s1 with heap := h3, toks := tk } := by
    intro code h3 tk ps' hx hsz hP3 hmore ht3
    obtain ⟨bm, ob, e1, e2, e3, e4, e5, e6, e7, e8⟩ := TB.bm
    have hcP : cStatics ≠ P := fun e => by
      obtain ⟨_, hns, _⟩ := I1.nolimit
      obtain ⟨o', es, ep, ho, hd, _⟩ := hns
      rw [e, hPs] at ho
      cases ho
      cases hd
    have hcl : cStatics < s1.heap.objs.size := let ⟨_, hns, _⟩ := I1.nolimit; hns.lt
    have sz2 : (s1.heap.push o).objs.size = s1.heap.objs.size + 1 := Heap.size_push ..
    have keep3 : ∀ b u, b ≠ P → s1.heap.get? b = some u → h3.get? b = some u := fun b u hb e => hx b u hb (Heap.get?_push_of_some _ e)
    refine wpAny_builtinsFor (m := X.mg) (by rw [I1.ok.glob]; exact ((I1.mod.glob.keeps I1.bk).push o).extBut hx TB.gP) e1 e2 (keep3 _ _ e4 (I1.bk _ _ e5)) e6 e7 e8 ?_
    have iP : s1.heap.objs.size ≠ P := fun z => Nat.ne_of_lt hPlt z.symm
    refine ⟨s1.heap.objs.size, [s1.heap.objs.size, a], [s1.heap.objs.size], its.toArray.size, _, _, (fun _ => true), (fun i y => ∃ n, ns[i]? = some n ∧ y = .bool (pb n)), rfl, fun A' hA => Walks.list hA s1.heap.objs.size a (Nat.ne_of_lt hal) its.toArray, ⟨hsti.at fun u e => hx _ u iP e, hstl.at fun u e => hx _ u aP e⟩, ?_, lim2.extBut hx hcP, ?_, ?_, ?_⟩
    · intro b hb
      simp only [List.mem_cons, List.not_mem_nil, or_false] at hb
      have h3l : s1.heap.objs.size < h3.objs.size := by omega
      rcases hb with z | z
      · rw [z]
        exact h3l
      · rw [z]
        exact Nat.lt_trans hal h3l
    · intro z
      rcases List.mem_cons.mp z with z | z
      · exact Nat.ne_of_lt hcl z
      · cases z
    · intro href hhref
      refine ⟨fun A' E' i v s₂ m₂ hA hPv hn hm hk => ?_, fun A' E' i v s₂ m₂ hA hPv hp hn hm hk => ?_⟩
      · simp only [List.forIn_nil]
        exact wpAny_pure ⟨rfl, keeps_refl _⟩
      · have hPv : its[i]? = some v := by rw [← List.getElem?_toArray]; exact hPv
        have hi : i < ns.length := by rw [← hln]; exact (List.getElem?_eq_some_iff.mp hPv).1
        obtain ⟨u, hu, ru⟩ := rv.get (i := i) (x := .int ns[i]) (by rw [List.getElem?_map, List.getElem?_eq_getElem hi]; rfl)
        rw [hPv] at hu
        cases hu
        obtain ⟨t, rfl⟩ := ru
        refine wpAny_mono (hel _ A' E' ns[i] t s₂ m₂ rfl I1.ok.glob (fun b u e => ?_) hn hm) (fun y s3 r => ⟨⟨_, List.getElem?_eq_getElem hi, r.1⟩, r.2⟩) fun _ _ e => e
        have hb1 := I1.bk b u e
        have hbl := Heap.lt_size hb1
        have bP : b ≠ P := fun z => by
          have q := (I1.bs b u e).2
          rw [z, hP] at q
          cases q
        refine hk b (List.mem_range.mpr ?_) (fun z => ?_) u (hhref b u (keep3 b u bP hb1))
        · have h3l : s1.heap.objs.size < h3.objs.size := by omega
          exact Nat.lt_trans hbl h3l
        · exact Nat.ne_of_lt hbl (List.mem_singleton.mp z)
    · intro g h5 tk5 gs hgb hag hsz5 hk5 W5 hat
      simp only [GxR.passing_true, List.length_range] at W5
      have W6 := W5.in4_1
      have hsz6 : its.toArray.size = ns.length := List.size_toArray.trans hln
      rw [hsz6] at W6 hat
      refine hQ ns H1 g _ q1 ⟨_, _, _, _, _, W6, hat, ?_, fun s' hm => ?_⟩
      · intro j y sj Qj Ej hy hQj
        obtain ⟨i, hij, n, hn, rfl⟩ := hy
        obtain ⟨hj, ej⟩ := List.getElem?_eq_some_iff.mp hij
        rw [List.getElem_range] at ej
        subst ej
        have hQ2 : Qj (trI pb ns j) sj := hQj
        rw [trI_some hn] at hQ2
        exact wpAny_truthy_bool hQ2
      · obtain ⟨more, em⟩ := hmore
        have nwr : ∀ b u, s1.heap.get? b = some u → b ∉ h3.objs.size :: [s1.heap.objs.size] := fun b u e hb => by
          have hl := Heap.lt_size e
          have sz3 : s1.heap.objs.size < h3.objs.size := by omega
          simp only [List.mem_cons, List.not_mem_nil, or_false] at hb
          rcases hb with z | z
          · exact Nat.ne_of_lt (Nat.lt_trans hl sz3) z
          · exact Nat.ne_of_lt hl z
        have J := inv_tab (more := more) (h' := s'.heap) (g' := s'.gens) (d' := s'.drawn) (t' := s'.toks) I1 hP (fun b u hb e => hm.heap b u (nwr b u e) (hk5 b u (keep3 b u hb e)))
          (by rw [← em]; exact hm.heap P _ (nwr P _ hPs) (hk5 P _ hP3)) (AllBare.movedS (I1.bare.push hgb) hm)
        rw [sh_eta s1 s' hm.os] at J
        exact ⟨upd H1 P (.tbl (ps ++ more)), ⟨⟨ps ++ more, upd_same, by rw [← em]; exact ht3⟩, fun b hb => upd_ne hb⟩, J⟩
  refine ⟨lim2, ?_⟩
  cases hf : codeAmong gpos ps.toList with
  | none =>
    refine wpAny_genexprCodeX hcode (cd.code hP2 ht) (cd.tab hP2) hf fun c' h' tk hx hge hlt hco' _ htab' _ => ?_
    obtain ⟨o1, vs, f1, tf, fl, tg, inF, tx, tt, op, _, _, _, _, _, _, _, _, _, htr, _⟩ := hco'
    exact cont _ h' tk _ hx (Nat.le_trans hge (Nat.le_of_lt hlt)) htab'.2 ⟨_, rfl⟩ htr
  | some cv =>
    refine wpAny_genexprCode_hit hcode (cd.code hP2 ht) hf ?_
    exact cont cv (s1.heap.push o) s1.toks ps (Heap.ExtBut.refl _ _) (Nat.le_refl _) hP2 ⟨#[], by simp⟩ ht
/-- any(test for x in e), e a list of ints; behind it the def's table may have grown -/
def anyK (K : PySem.W.Frag) (P : Addr) (pb : Int → Bool) (v : V) (H1 : Hp) (Q : VK) : Prop := ∃ (a : Addr) (ns : List Int), v = .ref a ∧ SqL K H1 a (ns.map V.int) ∧ TabG H1 P ∧ ∀ H2, Tabbed P H1 H2 → Q (.bl (ns.any pb)) H2
def tAnyI (K : PySem.W.Frag) (P : Addr) (pb : Int → Bool) (te : TE) : TE := fun σ H Q => te σ H fun v H1 => anyK K P pb v H1 Q
theorem pe_anyI {c P : Addr} {elt iter : Expr} {x : Str} {px p pos gpos : Pos} {scope : Scope} {pb : Int → Bool} {te : TE} {k : Nat}
    (hr : Room k X.A) (hg : Gl X "any") (hm : X.mg "any" = none) (TB : TabB X.base X.mg c P) (hcode : X.env.code = .ref c) (S : GenS X.env scope x) (hi : PE X iter te) (hel : EltI X.prog X.w X.base scope x elt pb)
    (hs : ∀ v, genFold iter X.env v = pure v)
    (he : starEach [.GeneratorExp elt [⟨.Name x px, iter, [], 0⟩] scope gpos] X.env = (false, eval (.GeneratorExp elt [⟨.Name x px, iter, [], 0⟩] scope gpos) X.env) :: starEach [] X.env := by rfl) :
    PE X (.Call (.Name "any" p) [.GeneratorExp elt [⟨.Name x px, iter, [], 0⟩] scope gpos] [] pos) (tAnyI X.K P pb te) := ⟨fun pins s σ H Q I h => by
  refine wpAny_Call_Name_kw (ld_blt I hg hm boot_any (PyProof.Rows.callWith_builtin1 ?_ he (by rfl)))
  rw [he]
  show wpAny _ _ (spliced ((false, eval (.GeneratorExp elt [⟨.Name x px, iter, [], 0⟩] scope gpos) X.env) :: backTo pos (starEach [] X.env))) _ _ s
  refine Calls.spliced_cons (gen_ints (R := fun ns H1 => ∀ H2, Tabbed P H1 H2 → Q (.bl (ns.any pb)) H2) hr TB hcode S hi hel hs I h fun ns H1 g s5 hR hG => Calls.spliced_nil ?_)
  obtain ⟨fp, wr, G, F, St, W, hst, htr, hI⟩ := hG
  refine call_any_walkS (W.self 0 _ _ _ hst ⟨g, fp, wr, G, _, F, St, _, rfl, W, hst, htr, fun s' hmv => ?_⟩)
  obtain ⟨H2, hT, J⟩ := hI s' hmv
  refine ⟨.bl _, H2, J, rfl, ?_⟩
  rw [any_trI ns pb]
  exact hR H2 hT⟩
end
/-- x < lo or x >= NAME, NAME a constant of the module -/
theorem elt_rng {prog : Program} {w : World} {base : Heap} {mg : Str → Option Value} {scope : Scope} {x y : Str} {i B : Int} {u : Tok} {j : Nat} {p1 p2 p3 p4 p5 p6 p7 : Pos} (hk : scope.kind = .function) (hl : scope.names.lookup x = some .local) (hg : scope.names.lookup y = some .globalImplicit)
    (hn : base.Ns mainGlobals mg) (hm : mg y = some (.int B u)) (hd : (x == ("__debug__" : Str)) = false := by decide) (hd2 : (y == ("__debug__" : Str)) = false := by decide) :
    EltI prog w base scope x (.BoolOp .Or [.Compare (.Name x p1) [.Lt] [.Constant (.int i) j p2] p3, .Compare (.Name x p4) [.GtE] [.Name y p5] p6] p7) (fun n => decide (n < i) || decide (B ≤ n)) := by
  intro cenv A' E' n t s₂ m₂ hs hgl hb hns hmx
  have hkind : cenv.scope.kind = .function := by rw [hs]; exact hk
  have hloc : cenv.scope.names.lookup x = some .local := by rw [hs]; exact hl
  refine BoolOp_or (wpAny_Compare1 (wpAny_Name (wpAny_loadName_local hkind hloc hns hmx ?_) hd))
  refine wpAny_Constant_int ?_
  refine PySem.P.lt_int (wpAny_truthy_bool ?_)
  by_cases c : n < i
  · rw [decide_eq_true c]
    exact ⟨by show _ = Value.bool (decide (n < i) || decide (B ≤ n)); rw [decide_eq_true c]; rfl, keeps_tok _ _⟩
  · rw [decide_eq_false c]
    show wpAny _ _ (eval (.BoolOp .Or [_] _) cenv) _ _ _
    refine BoolOp_one (wpAny_Compare1 (wpAny_Name (wpAny_loadName_local hkind hloc hns hmx ?_) hd))
    refine Calls.Name_function_global hkind (show cenv.scope.names.lookup y = some .globalImplicit by rw [hs]; exact hg) (Calls.loadGlobal_global (by rw [hgl]; exact hn.keeps hb) hm ?_) hd2
    refine PySem.P.ge_int ?_
    exact ⟨by show _ = Value.bool (decide (n < i) || decide (B ≤ n)); rw [decide_eq_false c, Bool.false_or], keeps_tok _ _⟩

end

section
open PySem PySem.Spec PyProof.Rows L2 GxR
/-! ### texts that are walked -/
/-- a text, as one that is walked -/
def isS (x : V) (P : Str → Prop) : Prop := ∃ z, x = .str z ∧ P z
def jS (te : TE) : TI := fun σ H R => te σ H fun x _H1 => isS x fun z => R (Its z) _H1
section
variable {X : Cx}
theorem i_str {tg iter : Expr} {te : TE} (h : PI X tg iter (iStr te)) : PI X tg iter (jS te) := h
end
/-- the signs of a text, each with its place, in a new pair -/
def Itse (x : Str) : It := ⟨fun i _ => i < x.cps.size, fun i H v H' => ∃ T c, v = .ref T ∧ H T = none ∧ H' = upd H T (.tup [.int (i : Nat), .str ⟨#[c]⟩]) ∧ x.cps[i]? = some c, fun i _ => i = x.cps.size⟩
theorem turn_enumS {P : Program} {w : World} {K : PySem.W.Frag} {elts : List Expr} {kk : Nat} {tpos : Pos} (x : Str) (t : Tok) (e it : Addr) :
    Turn P w K (.Tuple elts kk tpos) (Itse x) [e, it] e (fun i h => (∃ old, IsEnum h e it ((i : Nat) : Int) old) ∧ h.IsStrIter it (strIterType x) x t i ∧ e ≠ it) where
  mem := List.mem_cons_self
  obj := fun i h st b hb => by
    obtain ⟨⟨old, he⟩, ⟨o, ho, hc, hd⟩, _⟩ := st
    simp only [List.mem_cons, List.not_mem_nil, or_false] at hb
    rcases hb with rfl | rfl
    · exact ⟨_, he, fun v q => (nomatch q)⟩
    · exact ⟨o, ho, fun v q => by rw [hd] at q; exact nomatch q⟩
  keep := fun i h h' st k => by
    obtain ⟨⟨old, he⟩, ⟨o, ho, r⟩, hne⟩ := st
    exact ⟨⟨old, k e (by simp) _ he⟩, ⟨o, k it (by simp) o ho, r⟩, hne⟩
  item := by
    intro X hP hw hK hc i pins s σ H E I hf st hg
    subst hP hw hK
    obtain ⟨⟨old, he⟩, hit, hne⟩ := st
    have D : Draws X.prog X.w X.A.in1 it [it] x.cps.size (fun i v => ∃ c u, x.cps[i]? = some c ∧ v = .str ⟨#[c]⟩ u) (fun i h => h.IsStrIter it (strIterType x) x t i) := Draws.text (by show X.A.handled = none; exact I.ok.hd hc) it x t
    have hel : e < s.heap.objs.size := Heap.lt_size he
    have hil : it < s.heap.objs.size := by obtain ⟨_, q, _⟩ := hit; exact Heap.lt_size q
    refine wpAny_pyNext_enum_itemD D he hit hg hne (by simpa using hne) fun u h' tk hu ho hit' hT hsz hk => ?_
    obtain ⟨c, tc, hcx, rfl⟩ := hu
    refine ⟨_, rfl, wpAny_letOwnedTupleGo_enum (s := { s with heap := h', toks := tk + 1 }) ho fun h'' he' sb => ?_⟩
    have hT2 : h''.get? s.heap.objs.size = some { cls := .type "tuple", data := .seq #[.int i tk, .str ⟨#[c]⟩ tc] } := (sb.2 _ (Nat.ne_of_gt hel)).trans hT
    have new : ObjOk X.prog X.w (upd H s.heap.objs.size (.tup [.int (i : Nat), .str ⟨#[c]⟩])) h'' s.heap.objs.size (.tup [.int (i : Nat), .str ⟨#[c]⟩]) :=
      ⟨by show 2 ≤ sizeLine; decide, [.int i tk, .str ⟨#[c]⟩ tc], .cons ⟨_, rfl⟩ (.cons ⟨_, rfl⟩ .nil), ⟨_, hT2, rfl, _, rfl⟩⟩
    have I1 : Inv X pins σ (upd H s.heap.objs.size (.tup [.int (i : Nat), .str ⟨#[c]⟩])) { s with heap := h'', toks := tk + 1 } :=
      I.turnedNew (ch := [e, it]) (fun b ob hb q => (sb.2 b (fun z => hb (by simp [z]))).trans (hk b ob (fun z => hb (by simp [z])) (fun z => hb (by simp [z])) q)) hf (Nat.le_refl _) new
    refine ⟨.ref s.heap.objs.size, _, I1, rfl, ⟨_, c, rfl, I.hok.fresh (Nat.le_refl _), rfl, hcx⟩, ⟨⟨.str ⟨#[c]⟩ tc, ?_⟩, ?_, hne⟩, fun b hb => ?_⟩
    · have e1 : ((i + 1 : Nat) : Int) = (i : Int) + 1 := by omega
      rw [e1]
      exact he'
    · obtain ⟨o, q, r⟩ := hit'
      exact ⟨o, (sb.2 it (Ne.symm hne)).trans q, r⟩
    · have hb' : b < s.heap.objs.size := by
        simp only [List.mem_cons, List.not_mem_nil, or_false] at hb
        rcases hb with z | z
        · rw [z]
          exact hel
        · rw [z]
          exact hil
      rw [upd_ne (Nat.ne_of_lt hb')]
      exact (hf b hb).1
  done := by
    intro X hP hw hK hc i pins s σ H E I hf st hg
    subst hP hw hK
    obtain ⟨⟨old, he⟩, hit, hne⟩ := st
    obtain ⟨f0, f1, f2, f3, f4, f5⟩ := hf it (by simp)
    have D : Draws X.prog X.w X.A.in1 it [it] x.cps.size (fun i v => ∃ c u, x.cps[i]? = some c ∧ v = .str ⟨#[c]⟩ u) (fun i h => h.IsStrIter it (strIterType x) x t i) := Draws.text (by show X.A.handled = none; exact I.ok.hd hc) it x t
    have hg : i = x.cps.size := hg
    subst hg
    exact wpAny_pyNext_enum_endD D he hit fun h' eb => ⟨rfl, I.turned (t' := s.toks) (fun b o hb q => eb b o hb q) f0 f1 f3 f4 f5⟩
  self := fun A i s Q E st h => by
    obtain ⟨⟨_, he⟩, _⟩ := st
    exact wpAny_pyIter_enum he h
def jES (ta : TA) : TI := fun σ H R => ta σ H fun vs H1 => ∃ z, vs = [.str z] ∧ R (Itse z) H1
theorem pi_enumS {X : Cx} {e : Expr} {ta : TA} {p pos tpos : Pos} {elts : List Expr} {kk : Nat} (hg : Gl X "enumerate") (hm : X.mg "enumerate" = none) (ha : PA X [e] ta) (hs : starEach [e] X.env = [(false, eval e X.env)] := by rfl) :
    PI X (.Tuple elts kk tpos) (.Call (.Name "enumerate" p) [e] [] pos) (jES ta) := by
  refine ⟨fun pins s σ H R I h => ?_⟩
  refine Call_ (ld_blt I hg hm boot_enumerate (PyProof.Rows.callWith_type1 (thn (ha.run pos pins s σ H _ I h) fun us s1 ⟨vs, H1, I1, r1, q1⟩ => ?_) hs rfl))
  obtain ⟨z, rfl, q⟩ := q1
  cases r1 with
  | cons r rr =>
    cases rr
    obtain ⟨t, rfl⟩ := r
    refine call_enumerate_str fun h' he hit hsz hk => wpAny_pyIter_enum he ?_
    have I2 : Inv X pins σ H1 { s1 with heap := h' } := I1.kept (t' := s1.toks) hk
    refine ⟨s1.heap.objs.size + 1, [s1.heap.objs.size + 1, s1.heap.objs.size], _, _, H1, rfl, I2, turn_enumS z t (s1.heap.objs.size + 1) s1.heap.objs.size, ⟨⟨.none, he⟩, hit, Nat.succ_ne_self _⟩, fun b hb => ?_, q⟩
    have hle : s1.heap.objs.size ≤ b := by
      simp only [List.mem_cons, List.not_mem_nil, or_false] at hb
      rcases hb with z | z
      · rw [z]
        exact Nat.le_succ _
      · rw [z]
        exact Nat.le_refl _
    exact I1.fpOk hle (I1.hok.fresh hle)
section
variable {K : PySem.W.Frag} {H0 H H1 : Hp} {S : List Addr} {L : List (Addr × Ent)} {I : List (V × PyData)} {Q : VK} {g : TG} {tb : TS} {D : Ends} {σ : L2.St} {tt : TT} {te : TE} {vs : List Nat} {z : Str}
theorem walk_enumS {z : Str} : Walk (Itse z) z.cps.size (fun _ => True) (fun i H v H' => ∃ T c, v = .ref T ∧ H T = none ∧ H' = upd H T (.tup [.int (i : Nat), .str ⟨#[c]⟩]) ∧ z.cps[i]? = some c) :=
  ⟨fun _ _ hi _ => hi, fun _ _ => rfl, fun _ _ _ _ _ _ y => y⟩
/-- a for over a text -/
theorem lpS (Pv : Nat → L2.St → Hp → Prop) (h0 : Pv 0 σ H)
    (hs : ∀ i c σ H, z.cps[i]? = some c → Pv i σ H → g (.str ⟨#[c]⟩) σ H fun σ2 H2 => tb { D with nx := Pv (i + 1), ct := Pv (i + 1), bk := D.nx } σ2 H2) (hd : ∀ σ H, Pv z.cps.size σ H → D.nx σ H) : Lp (Its z) g tb D σ H :=
  for_it walk_str Pv h0 (fun _ _ _ _ _ => True.intro) (fun i x σ H H' _ p y => by
    obtain ⟨rfl, c, hc, rfl⟩ := y
    exact hs i c σ _ hc p) hd
/-- a for over enumerate of a text: the pair is new -/
theorem lpES (Pv : Nat → L2.St → Hp → Prop) (h0 : Pv 0 σ H)
    (hs : ∀ i c T σ H, z.cps[i]? = some c → H T = none → Pv i σ H → g (.ref T) σ (upd H T (.tup [.int (i : Nat), .str ⟨#[c]⟩])) fun σ2 H2 => tb { D with nx := Pv (i + 1), ct := Pv (i + 1), bk := D.nx } σ2 H2) (hd : ∀ σ H, Pv z.cps.size σ H → D.nx σ H) : Lp (Itse z) g tb D σ H :=
  for_it walk_enumS Pv h0 (fun _ _ _ _ _ => True.intro) (fun i x σ H H' _ p y => by
    obtain ⟨T, c, rfl, hT, rfl, hc⟩ := y
    exact hs i c T σ H hc hT p) hd
/-- a list made over a text -/
theorem lcS (h : Led K H0 S H L I) (Pv : Addr → Nat → Hp → Prop) (h0 : ∀ p H', H0 p = none ∨ p ∈ S → Led K H0 S H' ((p, .raw (.lst [])) :: L) I → Pv p 0 H')
    (hs : ∀ p i c H, z.cps[i]? = some c → Pv p i H → g (.str ⟨#[c]⟩) (wipe σ vs) H fun σ2 H2 => wipe σ2 vs = wipe σ vs ∧ tt σ2 H2 fun b H3 =>
      if b = true then te σ2 H3 fun y H4 => ∃ acc, H4 p = some (.lst acc) ∧ acc.length < sizeLine ∧ Pv p (i + 1) (upd H4 p (.lst (acc ++ [y]))) else Pv p (i + 1) H3)
    (hd : ∀ p H, Pv p z.cps.size H → Q (.ref p) H) : Lc (Its z) g tt te vs σ H Q := fun p hp =>
  lc_it walk_str (Pv p) (h0 p _ (h.fr hp) (h.alloc hp)) (fun _ _ _ _ => True.intro) (fun i x H H' _ q y => by
    obtain ⟨rfl, c, hc, rfl⟩ := y
    exact hs p i c _ hc q) (hd p)
/-- a list made over enumerate of a text -/
theorem lcES (h : Led K H0 S H L I) (Pv : Addr → Nat → Hp → Prop) (h0 : ∀ p H', H0 p = none ∨ p ∈ S → Led K H0 S H' ((p, .raw (.lst [])) :: L) I → Pv p 0 H')
    (hs : ∀ p i c T H, z.cps[i]? = some c → H T = none → Pv p i H → g (.ref T) (wipe σ vs) (upd H T (.tup [.int (i : Nat), .str ⟨#[c]⟩])) fun σ2 H2 => wipe σ2 vs = wipe σ vs ∧ tt σ2 H2 fun b H3 =>
      if b = true then te σ2 H3 fun y H4 => ∃ acc, H4 p = some (.lst acc) ∧ acc.length < sizeLine ∧ Pv p (i + 1) (upd H4 p (.lst (acc ++ [y]))) else Pv p (i + 1) H3)
    (hd : ∀ p H, Pv p z.cps.size H → Q (.ref p) H) : Lc (Itse z) g tt te vs σ H Q := fun p hp =>
  lc_it walk_enumS (Pv p) (h0 p _ (h.fr hp) (h.alloc hp)) (fun _ _ _ _ => True.intro) (fun i x H H' _ q y => by
    obtain ⟨T, c, rfl, hT, rfl, hc⟩ := y
    exact hs p i c T H hc hT q) (hd p)
theorem h_isS (k : P z) : isS (.str z) P := ⟨z, rfl, k⟩
end
/-! ### ord, max of two, a text many times, join, the place of a text in a list -/
def mOrd : RCall := fun xs H Q => ∃ c : Nat, xs = [.str ⟨#[c]⟩] ∧ Q (.int (c : Nat)) H
def mMax2 : RCall := fun xs H Q => ∃ i j : Int, xs = [.int i, .int j] ∧ Q (.int (if j > i then j else i)) H
def repS (n : Nat) (x : Str) : Str := if n < 1 then Str.empty else if n = 1 ∨ x.length = 0 then x else ⟨(List.replicate n x.cps).foldl (· ++ ·) #[]⟩
def mMulS : R2 := fun x y H Q => ∃ (z : Str) (n : Nat), x = .str z ∧ y = .int n ∧ n ≤ 1000000 ∧ z.length ≤ 1000 ∧ z.length * n ≤ 1000000 ∧ (repS n z).length ≤ sizeLine ∧ Q (.str (repS n z)) H
/-- a.join(list of texts), a a written text -/
def joinK (K : PySem.W.Frag) (a : Str) (y : V) (H : Hp) (Q : VK) : Prop := ∃ (p : Addr) (ys : List Str), y = .ref p ∧ SqL K H p (ys.map V.str) ∧ (ys.map (·.length)).sum + ys.length * a.length ≤ 16777216 ∧ Q (.str (Txt.join a ys)) H
def tJoin (K : PySem.W.Frag) (a : Str) (te : TE) : TE := fun σ H Q => te σ H fun y H1 => joinK K a y H1 Q
section
variable {X : Cx}
theorem c_ord : CallR X (.builtin "ord") mOrd := CallR.weak call_ord fun xs H Q h => by
  obtain ⟨c, rfl, q⟩ := h
  exact ⟨⟨#[c]⟩, rfl, rfl, q⟩
theorem c_max2 (hc : X.calm = true) : CallR X (.builtin "max") mMax2 := CallR.weak (call_max2 hc) fun xs H Q h => h
theorem p_join {a : Str} {j : Nat} {e : Expr} {te : TE} {apos pos p : Pos} (he : PE X e te) (hs : starEach [e] X.env = [(false, eval e X.env)] := by rfl) (hbase : attributeBase (.Constant (.str a) j p) "join" X.env (eval (.Constant (.str a) j p) X.env) = eval (.Constant (.str a) j p) X.env := by rfl) (hline : (apos.endLine == pos.line) = true := by rfl) :
    PE X (.Call (.Attribute (.Constant (.str a) j p) "join" apos) [e] [] pos) (tJoin X.K a te) := ⟨fun pins s σ H Q I h => by
  have he2 : PE X e (fun σ H R => ∃ R0, te σ H R0 ∧ ∀ v H1, R0 v H1 → R v H1) := ⟨fun pins s σ H Q I h => by
    obtain ⟨R0, h1, h2⟩ := h
    exact wpAny_mono (he.run pins s σ H R0 I h1) (fun u s' ⟨v, H', I', rv, q⟩ => ⟨v, H', I', rv, h2 _ _ q⟩) fun _ _ z => z⟩
  refine (pe_join (o := .Constant (.str a) j p) (to := tC (.str a)) pe_str he2 hs hbase hline).run pins s σ H Q I ⟨⟨a, rfl⟩, _, h, fun v H1 r => ?_⟩
  obtain ⟨q, ys, rfl, hq, hz, k⟩ := r
  exact ⟨a, q, ys, rfl, rfl, .inl hq, hz, k⟩⟩
theorem o_mulS : OpR X (binaryOp .Mult) mMulS := by
  intro pins s σ H x y u v Q I rx ry h
  obtain ⟨z, n, rfl, rfl, h1, h2, h3, h4, q⟩ := h
  obtain ⟨t, rfl⟩ := rx
  obtain ⟨t2, rfl⟩ := ry
  refine PySem.P.mul_str ?_ (fun a b => ?_) (fun a b => ?_) ?_
  · rw [decide_eq_false (by omega), decide_eq_false (by omega)]
    rfl
  · have : (1000 : Int) ≤ (2 ^ 63 - 1) / n := by
      rw [Int.le_ediv_iff_mul_le (by omega)]
      omega
    omega
  · rw [Int.toNat_natCast]
    unfold Builtin.Str.tooLong
    rw [sizeLine_eq]
    exact decide_eq_false (by omega)
  · unfold repS at h4 q
    by_cases a : n < 1
    · rw [if_pos (by omega)]
      rw [if_pos a] at h4 q
      exact ⟨h4, .str _, H, I.tok _, ⟨_, rfl⟩, q⟩
    · rw [if_neg (by omega)]
      rw [if_neg a] at h4 q
      by_cases b : n = 1 ∨ z.length = 0
      · rw [if_pos b] at q
        rw [if_pos (by rcases b with b | b <;> simp [b])]
        exact ⟨.str _, H, I, ⟨_, rfl⟩, q⟩
      · rw [if_neg b] at h4 q
        rw [if_neg (by simp only [not_or] at b; simp [b.1, b.2]; omega), Int.toNat_natCast]
        exact ⟨h4, .str _, H, I.tok _, ⟨_, rfl⟩, q⟩
end

end

section
open PySem PySem.Spec PyProof.Rows L2 GxR NdefX L2H
/-! ### a caught exception asked: isinstance, fields -/
def rIsY (K : PySem.W.Frag) (cls : Value) (d : Option Addr) (a : Addr) : RCall := fun xs H Q => ∃ (c : V) (cv : Value) (D : Addr) (b : Bool), cls = .ref D ∧ (d = none ∨ ∃ (dd : Addr) (fs : List (Str × V)), d = some dd ∧ H dd = some (.xd fs)) ∧ ExcC K D ∧ xs = [.ref a, c] ∧ (∀ u, RelV c u → u = cv) ∧ PySem.W.kitOne K (.ref D) cv = some b ∧ Q (.bl b) H
section
variable {X : Cx}
theorem call_isY {a : Addr} {cls : Value} {d : Option Addr} {oe : Obj} {pn : List (Addr × Obj)} (hz : Zc cls d oe) (hf : ∃ vs, oe.data = .fields vs) : CallR (X.suite a ((a, oe) :: pn)) (.builtin "isinstance") (rIsY X.K cls d a) := by
  intro pins s σ H xs us Q I r h
  obtain ⟨c, cv, D, b, rfl, hdd, C, rfl, hcv, e, q⟩ := h
  cases r with
  | cons rx rr =>
    cases rr with
    | cons rt rr =>
      cases rr
      cases rx
      have ec := hcv _ rt
      subst ec
      have hget := (I.pin (a, oe) (List.mem_append.mpr (.inl List.mem_cons_self))).1
      obtain ⟨vs, hv⟩ := hf
      have nc : PySem.W.notCls oe = true := by unfold PySem.W.notCls; rw [hv] <;> rfl
      have J : ∃ od, PySem.W.InstAt s.heap a oe D od := by
        rcases hdd with hdd | ⟨dd, fs, hdd, hx⟩
        · have h2 := hz.2
          rw [hdd] at h2
          exact ⟨none, hget, hz.1, nc, by rw [h2]; trivial⟩
        · have h2 := hz.2
          rw [hdd] at h2
          obtain ⟨mA, ⟨ob, es, ep, ho, _⟩, _⟩ := I.hok dd _ hx
          exact ⟨some ob, hget, hz.1, nc, by rw [h2]; exact ho⟩
      obtain ⟨od, J⟩ := J
      have hcl : (PySem.W.clsIn X.K D).isSome = true := by
        obtain ⟨cd, hc, _⟩ := PySem.W.any_some C.hd
        rw [hc]
        rfl
      exact PySem.W.kia_one (PySem.W.kitx_exc (od := od) hcl C.hg C.hk C.hs C.ha C.hn C.ht C.hm) I.kIn J e (fun z => nomatch z) fun tk => ⟨.bl b, H, I.kept (t' := tk) fun _ _ z => z, rfl, q⟩
end
def xfK (a : Addr) (cls : Value) (d : Option Addr) (C : Addr) (f : Str) (x : V) (H1 : Hp) (Q : VK) : Prop := x = .ref a ∧ cls = .ref C ∧ ∃ (dd : Addr) (fs : List (Str × V)) (v : V), d = some dd ∧ H1 dd = some (.xd fs) ∧ fs.lookup f = some v ∧ Q v H1
section
variable {K : PySem.W.Frag} {H H1 : Hp} {Q : VK} {σ : L2.St} {a C D dd : Addr} {cls : Value} {d : Option Addr} {f : Str} {te : TE} {ta : TA} {fs : List (Str × V)} {W : WX} {De : Ends}
theorem a_xf : tXf a cls d C f te σ H Q = te σ H fun x H1 => xfK a cls d C f x H1 Q := rfl
theorem a_raiseX {fn : List Str} : mRaiseX C fn W ta De σ H = ta σ H fun vs H1 => mkX C fn vs H1 fun cls d H' => W cls d σ H' := rfl
theorem a_join {z : Str} : tJoin K z te σ H Q = te σ H fun y H1 => joinK K z y H1 Q := rfl
theorem a_anyI {P : Addr} {pb : Int → Bool} : tAnyI K P pb te σ H Q = te σ H fun v H1 => anyK K P pb v H1 Q := rfl
theorem a_jS {R : It → Hp → Prop} : jS te σ H R = te σ H fun x H1 => isS x fun z => R (Its z) H1 := rfl
theorem a_jES {R : It → Hp → Prop} : jES ta σ H R = ta σ H fun vs H1 => ∃ z, vs = [.str z] ∧ R (Itse z) H1 := rfl
theorem h_isYr {b : Bool} (hD : ExcC K D) (hk : PySem.W.kitOne K (.ref D) (.ref C) = some b) (hd : d = none ∨ ∃ (dd : Addr) (fs : List (Str × V)), d = some dd ∧ H dd = some (.xd fs)) (k : Q (.bl b) H) : rIsY K (.ref D) d a [.ref a, .ref C] H Q :=
  ⟨_, _, D, b, rfl, hd, hD, rfl, fun _ r => r, hk, k⟩
theorem h_isYt {T : String} {b : Bool} (hD : ExcC K D) (hk : PySem.W.kitOne K (.ref D) (.type T) = some b) (hd : d = none ∨ ∃ (dd : Addr) (fs : List (Str × V)), d = some dd ∧ H dd = some (.xd fs)) (k : Q (.bl b) H) : rIsY K (.ref D) d a [.ref a, .ty T] H Q :=
  ⟨_, _, D, b, rfl, hd, hD, rfl, fun _ r => r, hk, k⟩
theorem h_xf {v : V} (e : H dd = some (.xd fs)) (l : fs.lookup f = some v) (k : Q v H) : xfK a (.ref C) (some dd) C f (.ref a) H Q := ⟨rfl, rfl, dd, fs, v, rfl, e, l, k⟩
theorem h_ord {c : Nat} (k : Q (.int (c : Nat)) H) : mOrd [.str ⟨#[c]⟩] H Q := ⟨c, rfl, k⟩
theorem h_max2 {i j : Int} (k : Q (.int (if j > i then j else i)) H) : mMax2 [.int i, .int j] H Q := ⟨i, j, rfl, k⟩
end
/-! ### tuples of the written part -/
theorem imK {K : PySem.W.Frag} {H : Hp} {a : Addr} {dd : Option Addr} {its : Array Value} {n : Nat} {sl : Array (Option Value)} {xs : List V} {ds : List PyData} (h : K.lookup a = some ⟨.type "tuple", dd, .seq its n, sl⟩) (hz : its.size ≤ sizeLine) (r : Vals xs its.toList) (hd : Ims K H xs ds) : Im K H (.ref a) (.tuple ds) :=
  .tup (.inr ⟨_, its, n, h, rfl, rfl, hz, r⟩) hd
/-! ### the law's end with tables of code objects -/

theorem law_callGT {P : Program} {w : World} {K : PySem.W.Frag} {mg mb : Str → Option Value} {k : Nat} {fa a : Addr} {cs : List (Addr × Addr)} {fd : FuncData} {x : Str} {sp : Sp} {s₁ : Shared} {vs : List Value} {ns : List Int}
    (KX : K.In s₁.heap) (hns : s₁.heap.Ns mainGlobals mg) (hb : s₁.heap.Ns builtinsNs mb) (hbb : ∀ x : Str, x ≠ "__name__" → mb x = bootBuiltins x) (hlim : s₁.heap.NoLimit) (hg : s₁.gens = #[])
    (hT : ∀ p ∈ cs, s₁.heap.get? p.2 = some { cls := .none, data := .fields #[] }) (nT : ∀ p ∈ cs, K.lookup p.2 = none) (C : ∀ p ∈ cs, PySem.W.CodeHd s₁.heap p.1 p.2)
    (hbm : ∃ (bm : Addr) (ob : Obj), mg "__builtins__" = some (.ref bm) ∧ bm ≠ builtinsNs ∧ s₁.heap.get? bm = some ob ∧ ob.cls = .type "module" ∧ ob.dict = some builtinsNs ∧ ob.data = .plain)
    (ha : s₁.heap.get? a = some { cls := .type "list", data := .seq vs.toArray }) (hi : IntsAre vs ns) (hl : ns.length ≤ sizeLine) (hr : Room k callerA)
    (F : ∀ base : Heap, K.In base → base.Ns mainGlobals mg → (∀ p ∈ cs, TabB base mg p.1 p.2) → FnG P w K mg base k fa fd [x] sp) (hbind : ∀ (s : Shared) (u : Value), BindsTo s fd ⟨[u], []⟩ [(x, u)])
    (hsp : ∀ H : Hp, (∀ p ∈ cs, H p.2 = some (.tbl #[])) → SqL K H a (ns.map V.int) → sp [.ref a] H (fun v _ => v = .bl true) fun _ _ _ => False) :
    codeAny (model P w) callerA (.call (.ref fa) ⟨[.ref a], []⟩) (fun r s' => r = .ok (.ret (.bool true)) ∧ OldK s₁.heap s'.heap ∧ s'.os = s₁.os ∧ AllBare s'.gens) s₁ := by
  have rv := vals_ints hi
  have lenV := hi.length
  have tabAt : ∀ b : Addr, b ∈ cs.map (·.2) → s₁.heap.get? b = some { cls := .none, data := .fields #[] } := fun b hb => by
    obtain ⟨p, hp, rfl⟩ := List.mem_map.mp hb
    exact hT p hp
  have aNo : a ∉ cs.map (·.2) := fun z => by
    have q := tabAt a z
    rw [ha] at q
    exact nomatch (show Data.seq vs.toArray _ = Data.fields #[] from congrArg Obj.data (Option.some.inj q))
  have tabIn : ∀ p ∈ cs, p.2 ∈ cs.map (·.2) := fun p hp => List.mem_map.mpr ⟨p, hp, rfl⟩
  suffices main : ∀ H : Hp, (∀ p ∈ cs, H p.2 = some (.tbl #[])) → (∀ b, H b = none ∨ b ∈ cs.map (·.2) ∨ ∃ o xs, H b = some (.frz o (.lst xs))) → SqL K H a (ns.map V.int) → HOk P w H s₁.heap → (∀ b, H b ≠ none → (b = a ∧ K.lookup a = none) ∨ b ∈ cs.map (·.2)) →
      codeAny (model P w) callerA (.call (.ref fa) ⟨[.ref a], []⟩) (fun r s' => r = .ok (.ret (.bool true)) ∧ OldK s₁.heap s'.heap ∧ s'.os = s₁.os ∧ AllBare s'.gens) s₁ by
    cases hk : K.lookup a with
    | some o =>
      have e := KX a o hk
      rw [ha] at e
      cases e
      refine main (fun b => if b ∈ cs.map (·.2) then some (.tbl #[]) else none) (fun p hp => if_pos (tabIn p hp)) (fun b => ?_) (.inr ⟨_, vs.toArray, _, hk, rfl, rfl, rfl, by rw [List.size_toArray, lenV]; exact hl, by simpa using rv⟩) (fun b u z => ?_) (fun b z => ?_)
      · by_cases m : b ∈ cs.map (·.2)
        · exact .inr (.inl m)
        · exact .inl (if_neg m)
      · by_cases m : b ∈ cs.map (·.2)
        · cases (if_pos m).symm.trans z
          exact tabAt b m
        · exact nomatch (if_neg m).symm.trans z
      · by_cases m : b ∈ cs.map (·.2)
        · exact .inr m
        · exact absurd (if_neg m) z
    | none =>
      refine main (fun b => if b = a then some (.frz { cls := .type "list", data := .seq vs.toArray } (.lst (ns.map V.int))) else if b ∈ cs.map (·.2) then some (.tbl #[]) else none)
        (fun p hp => by rw [if_neg (fun z => aNo (by rw [← z]; exact tabIn p hp)), if_pos (tabIn p hp)]) (fun b => ?_) (.inl (.inr ⟨_, if_pos rfl⟩)) (fun b u z => ?_) (fun b z => ?_)
      · by_cases e : b = a
        · exact .inr (.inr ⟨_, _, if_pos e⟩)
        · by_cases m : b ∈ cs.map (·.2)
          · exact .inr (.inl m)
          · exact .inl (by rw [if_neg e, if_neg m])
      · by_cases e : b = a
        · cases (if_pos e).symm.trans z
          subst e
          exact ⟨ha, by rw [List.length_map]; exact hl, vs, _, rv, ha⟩
        · have z1 := (if_neg e).symm.trans z
          by_cases m : b ∈ cs.map (·.2)
          · cases (if_pos m).symm.trans z1
            exact tabAt b m
          · exact nomatch (if_neg m).symm.trans z1
      · by_cases e : b = a
        · exact .inl ⟨e, hk⟩
        · by_cases m : b ∈ cs.map (·.2)
          · exact .inr m
          · exact absurd (by rw [if_neg e, if_neg m]) z
  intro H hH hO hS hok hA
  -- what is neither a list nor an empty row of fields is not told
  have quiet : ∀ {b : Addr} {o : Obj}, s₁.heap.get? b = some o → (∀ vs n, o.data ≠ .seq vs n) → o.data ≠ .fields #[] → H b = none := fun {b o} e h1 h2 => by
    cases q : H b with
    | none => rfl
    | some u =>
      rcases hA b (by rw [q]; exact nofun) with ⟨rfl, _⟩ | m
      · rw [ha] at e
        cases e
        exact (h1 _ _ rfl).elim
      · rw [tabAt b m] at e
        cases e
        exact (h2 rfl).elim
  have dicts : ∀ {b : Addr} {o : Obj} {es : Array DictEntry} {ep : Nat}, s₁.heap.get? b = some o → o.data = .dict es ep → H b = none := fun {b o es ep} e d => quiet e (fun vs n z => by rw [d] at z; exact nomatch z) fun z => by rw [d] at z; exact nomatch z
  have nsB : ∀ {b : Addr} {m : Str → Option Value}, s₁.heap.Ns b m → (hidT s₁.heap H).Ns b m := fun ⟨o, es, ep, e, d, r⟩ => ⟨o, es, ep, hidT_get e (dicts e d), d, r⟩
  have inB : K.In (hidT s₁.heap H) := fun b o e => hidT_get (KX b o e) (by
    cases q : H b with
    | none => rfl
    | some u =>
      rcases hA b (by rw [q]; exact nofun) with ⟨rfl, hk⟩ | m
      · rw [hk] at e
        exact nomatch e
      · obtain ⟨p, hp, rfl⟩ := List.mem_map.mp m
        rw [nT p hp] at e
        exact nomatch e)
  have md : Mod K mg (hidT s₁.heap H) := ⟨inB, nsB hns, ⟨mb, nsB hb, hbb⟩, hlim.elim fun mc h => ⟨mc, nsB h.1, h.2⟩⟩
  have tabs : ∀ p ∈ cs, TabB (hidT s₁.heap H) mg p.1 p.2 := fun p hp => by
    have tp := hT p hp
    refine ⟨?_, ?_, fun z => ?_⟩
    · obtain ⟨o, us, file, tf, flags, tg, inF, text, tt, e1, r1, r2, r3, r⟩ := C p hp
      exact ⟨o, us, file, tf, flags, tg, inF, text, tt, hidT_get e1 (quiet e1 (fun vs n z => by rw [r2] at z; exact nomatch z) fun z => by rw [r2] at z; cases z; simp at r3), r1, r2, r3, r⟩
    · obtain ⟨bm, ob, b1, b2, b3, b4, b5, b6⟩ := hbm
      refine ⟨bm, ob, b1, b2, fun q => ?_, fun q => ?_, hidT_get b3 (quiet b3 (fun vs n z => by rw [b6] at z; exact nomatch z) fun z => by rw [b6] at z; exact nomatch z), b4, b5, b6⟩
      · obtain ⟨o, es, ep, e, d, _⟩ := hns
        rw [q, e] at b3
        cases b3
        rw [d] at b6
        exact nomatch b6
      · rw [q, tp] at b3
        cases b3
        exact nomatch b6
    · obtain ⟨o, es, ep, e, d, _⟩ := hns
      rw [z, tp] at e
      cases e
      exact nomatch d
  have none_in : ∀ b : Addr, b ∉ frs [] := fun b hb => absurd (show b ∈ ([] : List Addr) from hb) List.not_mem_nil
  have e0 : Env0 P w K mg (hidT s₁.heap H) callerA [] s₁ H := ⟨rfl, md, fun b o e => of_hidT e, Nat.le_of_eq (hidT_size _ _), trivial, fun b hb => absurd hb (none_in b), hok, .of_eq hg⟩
  refine codeAny_mono ((F _ inB (nsB hns) tabs).go callerA [] s₁ H ⟨[.ref a], []⟩ [.ref a] [.ref a] _ _ hr rfl e0 (hbind s₁ (.ref a)) (.cons rfl .nil) (hsp H hH hS)) fun rr s' h => ?_
  match rr, h with
  | .error _, h => exact False.elim h
  | .ok .next, h => exact False.elim h
  | .ok .brk, h => exact False.elim h
  | .ok .cont, h => exact False.elim h
  | .ok (.ret u), h =>
    obtain ⟨v, H', os, bare, un, hok', r', q⟩ := h
    cases (show v = .bl true from q)
    cases (show u = Value.bool true from r')
    have kept : ∀ b o, b ∉ cs.map (·.2) → s₁.heap.get? b = some o → s'.heap.get? b = some o := fun b o nb e => by
      rcases hO b with z | z | ⟨ob, xs, z⟩
      · exact un.keep b o e z (none_in b) List.not_mem_nil
      · exact absurd z nb
      · obtain ⟨e1, _⟩ := hok b _ z
        obtain ⟨e2, _⟩ := hok' b _ (un.frzs b ob _ z)
        rw [e] at e1
        cases e1
        exact e2
    have grown : ∀ p ∈ cs, ∃ more : Array Value, s'.heap.get? p.2 = some { cls := .none, data := .fields more } := fun p hp => by
      obtain ⟨more, z⟩ := un.tbls p.2 #[] (hH p hp)
      exact ⟨_, hok' p.2 _ z⟩
    refine ⟨rfl, ⟨fun b o e => ?_, fun b o e => ?_⟩, os, bare⟩
    · by_cases m : b ∈ cs.map (·.2)
      · obtain ⟨p, hp, rfl⟩ := List.mem_map.mp m
        obtain ⟨more, hm⟩ := grown p hp
        rw [hT p hp] at e
        cases e
        exact .inr (.inl ⟨((C p hp).tab (hT p hp)).isCodeTable, rfl, #[], more, rfl, by rw [Array.empty_append]; exact hm⟩)
      · exact .inl (kept b o m e)
    · by_cases m : b ∈ cs.map (·.2)
      · obtain ⟨p, hp, rfl⟩ := List.mem_map.mp m
        obtain ⟨more, hm⟩ := grown p hp
        exact ⟨_, hm⟩
      · exact ⟨o, kept b o m e⟩
/-- what is known of the law's promise at the head's heap: code objects and tables cs -/
def LawAtG (l : PySem.W.OpenLaw) (w : World) (K : PySem.W.Frag) (k n : Nat) (x : Str) (mg : Str → Option Value) (fa : Addr) (h : Heap) : Prop :=
  ∃ (fd : FuncData) (cs : List (Addr × Addr)) (sp : Sp), (∀ p ∈ cs, h.get? p.2 = some { cls := .none, data := .fields #[] }) ∧ (∀ p ∈ cs, K.lookup p.2 = none) ∧ (∀ p ∈ cs, PySem.W.CodeHd h p.1 p.2) ∧ (∀ (s : Shared) (u : Value), BindsTo s fd ⟨[u], []⟩ [(x, u)]) ∧
    (∀ (H : Hp) (a : Addr) (ns : List Int), ns.length ≤ n → (∀ z ∈ ns, Builtin.Int.intBits z ≤ 1048576) → (∀ p ∈ cs, H p.2 = some (.tbl #[])) → SqL K H a (ns.map V.int) → sp [.ref a] H (fun v _ => v = .bl true) fun _ _ _ => False) ∧
    ∀ base : Heap, K.In base → base.Ns mainGlobals mg → (∀ p ∈ cs, TabB base mg p.1 p.2) → FnG l.prog w K mg base k fa fd [x] sp
theorem walk_ofGT {l : PySem.W.OpenLaw} {n k : Nat} {q : Program} {loose : List Str} {XP : (Str → Option Value) → Heap → Prop} {YP : World → Heap → Prop} {d : DefRec} {K : Params → PySem.W.Frag} {x : Str}
    (hn : l.most = some n) (hn2 : n ≤ sizeLine) (hdf : d.params.defaults = []) (hr : Room k callerA) (hY : ∀ (w : World) (h : Heap), YP w h → (K w.params).In h)
    (F : ∀ (w : World) (mg : Str → Option Value) (fa : Addr) (h : Heap), YP w h → (K w.params).In h → h.Ns mainGlobals mg → mg d.name = some (.ref fa) → LawAtG l w (K w.params) k n x mg fa h) :
    PySem.W.WalkO q loose XP YP l.row.toRowW d [] (fun f vs => PySem.call f vs) := by
  refine Att.attach_callB hn hdf fun w s₀ s₁ mg mb fa o pm cd doc a vs ns G Y ho hd hcd hmg hobj hints hlen hbits hg => ?_
  obtain ⟨fd, cs, sp, hT, nT, C, hb, hsp, hF⟩ := F w mg fa _ Y (hY w _ Y) G.T.g hmg
  exact law_callGT (hY w _ Y) G.T.g G.T.b G.T.builtins G.T.nolimit hg hT nT C G.T.bmain hobj hints (Nat.le_trans hlen hn2) hr hF hb fun H hH hS => hsp H a ns hlen hbits hH hS
/-! ### defs whose code object is told -/
/-- a def of the text: its code object c and the table P that hangs on it -/
structure FunC (K : PySem.W.Frag) (x qual : Str) (st : Stmt) (f : Addr) (fd : FuncData) (c P : Addr) : Prop where
  ex : ∃ (oc : Value) (od : Option Addr) (kV doc pm : Value) (an : Option Addr) (ct : Value) (osl : Array (Option Value)),
    fd = PySem.W.fnOf x qual (defArgs st) (defBody st) (defScope st) .none kV doc pm an (.ref c) ct ∧ K.lookup f = some ⟨oc, od, .func fd, osl⟩ ∧ PySem.W.codeIn K (.ref c) qual = true
  kp : PySem.W.keepIn K (.ref f) = true
section
variable {P : Program} {w : World} {K : PySem.W.Frag} {mg : Str → Option Value} {base : Heap}
theorem okC {CX : CXT} {x qual : Str} {st : Stmt} {f c tP : Addr} {fd : FuncData} {N ps : List Str} {k : Nat} {sp : Sp} (F : FunC K x qual st f fd c tP) (S : FnScope N ps (defScope st)) (len : ∀ vs H Q E, sp vs H Q E → vs.length = ps.length)
    (hbody : ∀ (A : Around) (outer : List Env) (s : Shared) (H : Hp) (vs : List V) (Q : VK) (E : XK), Room k (A.deeper (envOfC qual (defScope st) s.heap.objs.size f (.ref c))) → sp vs H Q E →
      ∃ t, PSs (cxOf CX P w K mg base N qual (defScope st) f (.ref c) A outer s H E) (defBody st) t ∧ t { nx := fun _ H' => Q .non H', rt := Q } (start N vs) H) : FnOk P w K mg base CX (k + 1) f fd ps sp := by
  obtain ⟨oc, od, kV, doc, pm, an, ct, osl, rfl, lk, hcd⟩ := F.ex
  exact fn_of lk hcd S len hbody
theorem FunC.fn {x qual : Str} {st : Stmt} {f c tP : Addr} {fd : FuncData} (F : FunC K x qual st f fd c tP) : Fun K x qual st f fd := by
  obtain ⟨oc, od, kV, doc, pm, an, ct, osl, e, lk, hcd⟩ := F.ex
  exact ⟨⟨oc, od, kV, doc, pm, an, .ref c, ct, osl, e, lk, hcd⟩, F.kp⟩
theorem funC_mk {x qual : Str} {st : Stmt} {f c tP : Addr} {oc : Value} {od an : Option Addr} {osl : Array (Option Value)} {kV doc pm ct : Value} (l : K.lookup f = some ⟨oc, od, .func (PySem.W.fnOf x qual (defArgs st) (defBody st) (defScope st) .none kV doc pm an (.ref c) ct), osl⟩)
    (hc : PySem.W.codeIn K (.ref c) qual = true) (k : PySem.W.keepIn K (.ref f) = true) : FunC K x qual st f (PySem.W.fnOf x qual (defArgs st) (defBody st) (defScope st) .none kV doc pm an (.ref c) ct) c tP := ⟨⟨oc, od, kV, doc, pm, an, ct, osl, rfl, l, hc⟩, k⟩
end
theorem o_inS {X : Cx} : OpR X (compareOp .In) rInS := op_inS
theorem xfC_of {K : PySem.W.Frag} {C : Addr} (h : ExcC K C) : XfC K C := ⟨h.hg, h.hk, h.hs, h.hd⟩

end

section
open PySem PySem.Spec PyProof.Rows L2 NdefX L2H
/-! ### the bodies of such exceptions' __init__ -/
def sv (v : V) : Prop := (∃ y : Str, v = .str y ∧ y.length ≤ 1000) ∨ ∃ i : Int, v = .int i ∧ i.natAbs.log2 < 1920
section
variable {K : PySem.W.Frag} {C a : Addr} {v v1 v2 x0 : V} {H : Hp} {σ : L2.St} {R : List V → Hp → Prop} {c c2 f f1 f2 : Str} {Q : VK} {D : Ends} {r : L2.St}
theorem h_fmt {te : TE} {Q : VK} (hv : sv v) (ht : ∀ R : VK, R v H → te σ H R) (k : ∀ y : Str, y.length ≤ 1921 → Q (.str y) H) : tFmt te σ H Q := by
  refine ht _ ?_
  rcases hv with ⟨y, rfl, hy⟩ | ⟨i, rfl, hi⟩
  · exact .inl ⟨y, rfl, by rw [sizeLine_eq]; omega, k y (by omega)⟩
  · refine .inr ⟨i, rfl, hi, k _ ?_⟩
    show (Str.ofString (toString i)).length ≤ 1921
    rw [PySem.ofString_length]
    exact int_text_length_le (k := 1920) (by decide) hi
theorem len_sapp (a b : Str) : (a ++ b).length = a.length + b.length := by
  show (a.cps ++ b.cps).size = _
  rw [Array.size_append]
  rfl
/-- f'text {x}' -/
theorem xb_A (hc : c.length ≤ 1000) (hv : sv v) (k : ∀ y : Str, R [.str y] H) : tCons (fun σ H Q => tJs [tC (.str c), tFmt (mV 1)] Str.empty σ H fun out H1 => Q (.str out) H1) tNil (some x0 :: some v :: r) H R := by
  show tJs [tC (.str c), tFmt (mV 1)] Str.empty (some x0 :: some v :: r) H _
  refine ⟨c, rfl, by rw [len_sapp, sizeLine_eq]; show 0 + _ ≤ _; omega, ?_⟩
  refine h_fmt hv (fun R q => q) fun y hy => ⟨y, rfl, by rw [len_sapp, len_sapp, sizeLine_eq]; show 0 + _ + _ ≤ _; omega, ?_⟩
  exact k _
/-- f'text {x}text {y}' -/
theorem xb_B (hc : c.length ≤ 1000) (hc2 : c2.length ≤ 1000) (hv : sv v1) (hv2 : sv v2) (k : ∀ y : Str, R [.str y] H) :
    tCons (fun σ H Q => tJs [tC (.str c), tFmt (mV 1), tC (.str c2), tFmt (mV 2)] Str.empty σ H fun out H1 => Q (.str out) H1) tNil (some x0 :: some v1 :: some v2 :: r) H R := by
  show tJs [tC (.str c), tFmt (mV 1), tC (.str c2), tFmt (mV 2)] Str.empty (some x0 :: some v1 :: some v2 :: r) H _
  refine ⟨c, rfl, by rw [len_sapp, sizeLine_eq]; show 0 + _ ≤ _; omega, ?_⟩
  refine h_fmt hv (fun R q => q) fun y hy => ⟨y, rfl, by rw [len_sapp, len_sapp, sizeLine_eq]; show 0 + _ + _ ≤ _; omega, ?_⟩
  refine ⟨c2, rfl, by rw [len_sapp, len_sapp, len_sapp, sizeLine_eq]; show 0 + _ + _ + _ ≤ _; omega, ?_⟩
  refine h_fmt hv2 (fun R q => q) fun y2 hy2 => ⟨y2, rfl, by rw [len_sapp, len_sapp, len_sapp, len_sapp, sizeLine_eq]; show 0 + _ + _ + _ + _ ≤ _; omega, ?_⟩
  exact k _
/-- the parameter itself -/
theorem xb_S (k : R [v] H) : tCons (mV 1) tNil (some x0 :: some v :: r) H R := k
theorem xo_1 (O : OexC K C) (hf : PySem.W.findIn K (.ref C) f = some none) (ha : H a = some (exo a C none)) (k : ∀ dx, H dx = none → dx ≠ a → Q .non (upd (upd H dx (exd dx [(f, v)])) a (exo a C (some dx)))) :
    tOst K f (mV 0) (mV 1) { nx := fun _ H' => Q .non H', rt := Q } (some (.ref a) :: some v :: r) H :=
  ⟨a, C, rfl, O, hf, .inl ⟨ha, k⟩⟩
theorem xo_2 (O : OexC K C) (hf1 : PySem.W.findIn K (.ref C) f1 = some none) (hf2 : PySem.W.findIn K (.ref C) f2 = some none) (ha : H a = some (exo a C none)) (k : ∀ dx, H dx = none → dx ≠ a → Q .non (upd (upd H dx (exd dx [(f2, v2), (f1, v1)])) a (exo a C (some dx)))) :
    tSeq (tOst K f1 (mV 0) (mV 1)) (tOst K f2 (mV 0) (mV 2)) { nx := fun _ H' => Q .non H', rt := Q } (some (.ref a) :: some v1 :: some v2 :: r) H := by
  refine ⟨a, C, rfl, O, hf1, .inl ⟨ha, fun dx hd hda => ?_⟩⟩
  refine ⟨a, C, rfl, O, hf2, .inr ⟨dx, [(f1, v1)], upd_same, by rw [upd_ne hda, upd_same], by show 1 ≤ 900; decide, ?_⟩⟩
  have e : upd (upd (upd H dx (exd dx [(f1, v1)])) a (exo a C (some dx))) dx (exd dx [(f2, v2), (f1, v1)]) = upd (upd H dx (exd dx [(f2, v2), (f1, v1)])) a (exo a C (some dx)) := by
    funext b
    by_cases h1 : b = dx
    · rw [h1, upd_same, upd_ne hda, upd_same]
    · rw [upd_ne h1]
      by_cases h2 : b = a
      · rw [h2, upd_same, upd_same]
      · rw [upd_ne h2, upd_ne h2, upd_ne h1, upd_ne h1]
  show Q .non _
  rw [e]
  exact k dx hd hda
end
section
variable {P : Program} {K : PySem.W.Frag} {C f : Addr} {fd : FuncData} {qual : Str} {st : Stmt} {ps : List Str}
theorem FunS.binds (F : FunS P K C qual st f fd)
    (h : ∀ (kV doc pm : Value) (an : Option Addr) (c cc : Addr) (ct : Value) (us : List Value), us.length = ps.length → bindArgs (PySem.W.fnX "__init__" qual (defArgs st) (defBody st) (defScope st) [("__class__", cc)] .none kV doc pm an (.ref c) ct) ⟨us, []⟩ = pure (ps.zip us)) : Binds K fd ps [] := by
  obtain ⟨oc, od, kV, doc, pm, an, c, cc, ct, osl, ccl, cl, cdd, cld, vs, ccs, csl, file, tf, cd, rfl, _⟩ := F.ex
  exact .all (h kV doc pm an c cc ct)
theorem funS_mk {oc : Value} {od : Option Addr} {kV doc pm : Value} {an : Option Addr} {c cc : Addr} {ct : Value} {osl : Array (Option Value)} {ccl cl : Value} {cdd cld : Option Addr} {vs : Array Value} {ccs csl : Array (Option Value)} {file : Str} {tf : Tok} {cd : ClassData}
    (l : K.lookup f = some ⟨oc, od, .func (PySem.W.fnX "__init__" qual (defArgs st) (defBody st) (defScope st) [("__class__", cc)] .none kV doc pm an (.ref c) ct), osl⟩) (hc : PySem.W.codeIn K (.ref c) qual = true)
    (l2 : K.lookup c = some ⟨ccl, cdd, .fields vs, ccs⟩) (hv : vs[2]? = some (.str file tf)) (hf : ((P.main.file : Str) == file) = true) (l3 : K.lookup cc = some ⟨cl, cld, .cell (some (.ref C)), csl⟩) (hcl : PySem.W.clsIn K C = some cd)
    (hsub : PySem.W.mroIn K C (.ref C) = some true) (hmeth : PySem.W.ks_superIn K C C "__init__" = some (some (.builtin "ValueError.__init__"))) (hve : PySem.W.subIn K (.ref C) (.type "ValueError") = some true)
    (hopq : PySem.W.nsIn K cStatics "thirdparty.any" = some none) (htop : (P.main.scope.names.lookup ("super" : Str)).isSome = false) :
    FunS P K C qual st f (PySem.W.fnX "__init__" qual (defArgs st) (defBody st) (defScope st) [("__class__", cc)] .none kV doc pm an (.ref c) ct) :=
  ⟨⟨oc, od, kV, doc, pm, an, c, cc, ct, osl, ccl, cl, cdd, cld, vs, ccs, csl, file, tf, cd, rfl, l, hc, l2, hv, hf, l3, hcl⟩, hsub, hmeth, hve, hopq, htop⟩
/-- a def whose code object is told: the table that hangs on it, and the code object's other facts -/
theorem lk_none {K : PySem.W.Frag} {p : Addr} (h : (K.lookup p).isNone = true) : K.lookup p = none := by
  cases e : K.lookup p with
  | none => rfl
  | some o => rw [e] at h; exact nomatch h
end
/-! ### the facts of such a class, decided -/
def oexIn (K : PySem.W.Frag) (C : Addr) : Bool := match K.lookup C with
  | some ⟨.type "type", _, .cls cd, sl⟩ => (match cd.mro, sl.toList with
    | .ref C' :: bm, [_, _, _, _, some (.builtin n), _] => C' == C && n == "ValueError.__new__" && cd.hasDict && !cd.hasDel && PySem.HandSPX.refsVE bm
    | _, _ => false)
  | _ => false
theorem oexC_of {K : PySem.W.Frag} {C : Addr} (q : oexIn K C = true) (sa : PySem.W.findIn K (.ref C) "__setattr__" = some (some (.builtin "object.__setattr__"))) (exC : PySem.W.subIn K (.ref C) (.type "BaseException") = some true)
    (tyC : PySem.W.typeIn K (.ref C) = some (.type "type")) (kC : PySem.W.keepIn K (.ref C) = true) : OexC K C := by
  refine ⟨?_, sa, exC, tyC, kC⟩
  unfold oexIn at q
  split at q
  · rename_i dd cd sl ho
    split at q
    · rename_i C' bm k0 k1 k2 k3 n k5 hm hs
      simp only [Bool.and_eq_true, beq_iff_eq, Bool.not_eq_true'] at q
      obtain ⟨⟨⟨⟨rfl, rfl⟩, hdi⟩, hdel⟩, ht⟩ := q
      obtain ⟨nm, bs, mro, ns, qn, hd, sn, sub, ab, col, del⟩ := cd
      dsimp only at hm hdel hdi
      subst hm hdel hdi
      have hsl : sl = #[k0, k1, k2, k3, some (.builtin "ValueError.__new__"), k5] := by
        obtain ⟨l⟩ := sl
        simp only at hs
        rw [hs]
      subst hsl
      exact ⟨nm, qn, ns, bs, bm, sn, sub, ab, col, dd, k0, k1, k2, k3, k5, ho, ht⟩
    · cases q
  · cases q
/-- the facts of such a class's own __init__, decided (what lies behind its code object and its cell) -/
def supIn (K : PySem.W.Frag) (C c cc : Addr) (file : Str) : Bool :=
  (match K.lookup c with
   | some ⟨_, _, .fields vs, _⟩ => (match (vs[2]? : Option Value) with | some (.str f _) => f == file | _ => false)
   | _ => false) &&
  (match K.lookup cc with
   | some ⟨_, _, .cell (some (.ref C')), _⟩ => C' == C
   | _ => false) && (PySem.W.clsIn K C).isSome
theorem funS_of {P : Program} {K : PySem.W.Frag} {C f : Addr} {qual : Str} {st : Stmt} {oc : Value} {od : Option Addr} {kV doc pm : Value} {an : Option Addr} {c cc : Addr} {ct : Value} {osl : Array (Option Value)}
    (l : K.lookup f = some ⟨oc, od, .func (PySem.W.fnX "__init__" qual (defArgs st) (defBody st) (defScope st) [("__class__", cc)] .none kV doc pm an (.ref c) ct), osl⟩) (hc : PySem.W.codeIn K (.ref c) qual = true) (q : supIn K C c cc P.main.file = true)
    (hsub : PySem.W.mroIn K C (.ref C) = some true) (hmeth : PySem.W.ks_superIn K C C "__init__" = some (some (.builtin "ValueError.__init__"))) (hve : PySem.W.subIn K (.ref C) (.type "ValueError") = some true)
    (hopq : PySem.W.nsIn K cStatics "thirdparty.any" = some none) (htop : (P.main.scope.names.lookup ("super" : Str)).isSome = false) :
    FunS P K C qual st f (PySem.W.fnX "__init__" qual (defArgs st) (defBody st) (defScope st) [("__class__", cc)] .none kV doc pm an (.ref c) ct) := by
  unfold supIn at q
  simp only [Bool.and_eq_true] at q
  obtain ⟨⟨q1, q2⟩, q3⟩ := q
  split at q1
  · rename_i ccl cdd vs ccs l2
    split at q1
    · rename_i fl tf hv
      split at q2
      · rename_i cl cld C' csl l3
        have e : C' = C := beq_iff_eq.mp q2
        subst e
        obtain ⟨cd, hcd⟩ := Option.isSome_iff_exists.mp q3
        have e2 : fl = P.main.file := beq_iff_eq.mp q1
        exact funS_mk l hc l2 hv (by rw [e2]; exact beq_self_eq_true _) l3 hcd hsub hmeth hve hopq htop
      · cases q2
    · cases q1
  · cases q1
theorem noFree {names : List (Str × NameKind)} {P : Str × NameKind → Prop} (h : (names.all fun y => !decide (y.2 = NameKind.free)) = true) : ∀ y ∈ names, y.2 = .free → P y := fun y hy hf => by
  have q := List.all_eq_true.mp h y hy
  rw [hf] at q
  exact nomatch q
theorem imK2 {K : PySem.W.Frag} {H : Hp} {a : Addr} {dd : Option Addr} {l : List Value} {n : Nat} {sl : Array (Option Value)} {xs : List V} {ds : List PyData} (h : K.lookup a = some ⟨.type "tuple", dd, .seq (List.toArray l) n, sl⟩) (r : Vals xs l) (hd : Ims K H xs ds) (hz : l.length ≤ 10000 := by exact Nat.le_of_ble_eq_true rfl) : Im K H (.ref a) (.tuple ds) :=
  imK h (by rw [List.size_toArray, sizeLine_eq]; omega) (by rw [List.toList_toArray]; exact r) hd
theorem relRef {a : Addr} : L2.RelV (.ref a) (.ref a) := rfl
theorem relStr {x : Str} {t : Tok} : L2.RelV (.str x) (.str x t) := ⟨t, rfl⟩
theorem relInt {i : Int} {t : Tok} : L2.RelV (.int i) (.int i t) := ⟨t, rfl⟩

end

/-! ### a list made by turns of which one may raise -/
section
variable {M : Model} {A : Around} {E : Value → Shared → Prop} {s : Shared} {env : Env}
/-- how the block ends -/
def CEnd (M : Model) (A : Around) (E : Value → Shared → Prop) (env : Env) (Q : Value → Shared → Prop) (acc : Value) (C : Addr) : Result → Shared → Prop
  | .ok _, z => ∃ m, z.heap.Ns C m ∧ ∀ g, Heap.SameBut C z.heap g → Q acc { z with heap := g }
  | .error x, z => ∃ m, z.heap.Ns C m ∧ ∀ g, Heap.SameBut C z.heap g → wpAny M A (PySem.passOn "comprehension.variables-let-go" x env : Sem Value) (fun _ _ => False) E { z with heap := g }
theorem pass_cong {what : String} {x : Value} {ce : Env} (h : ce.frame = env.frame) : (PySem.passOn what x ce : Sem Value) = passOn what x env := by
  unfold PySem.passOn
  rw [h]
theorem note_cong {x : Value} {ce : Env} (h : ce.frame = env.frame) : noteFrame x ce = noteFrame x env := by
  unfold PySem.noteFrame PySem.frameOf
  rw [h]
theorem comp_own {e : Expr} {scope : Scope} {pos : Pos} {mkA first : Sem Value} {c0 : Comprehension} {cr : List Comprehension} {cl : List (Str × Addr)} {Q : Value → Shared → Prop}
    (hc : clausesOf e = c0 :: cr) (hi : ∀ x, foldedSetIterable c0.iter env x = pure x) (hcl : closureFor scope env = pure cl) (hk : scope.kind = .function)
    (hn : ∀ y ∈ scope.names, y.2 = .local → scope.names.lookup y.1 = some .local)
    (h : wpAny M A first (fun x z1 => wpAny M A (pyIter x) (fun it z2 => wpAny M A mkA (fun acc z3 => wpAny M A (newFunctionEnv scope env.globals cl [] env.qual none .none (some env)) (fun ce z4 =>
      ce.frame = env.frame ∧ codeAny M A (.compStart e 0 it acc { ce with scope := relabel scope env }) (CEnd M A E env Q acc ce.locals) z4) E z3) E z2) E z1) E s) : wpAny M A (comprehension e scope env pos mkA false first none) Q E s := by
  unfold comprehension
  rw [hcl, hc]
  refine wpAny_bind (thn h fun x z1 h1 => ?_)
  refine wpAny_bind (wpAny_standAt ?_)
  refine wpAny_bind (wpAny_of_eq (hi x) ?_)
  refine wpAny_bind (wpAny_holding (thn h1 fun it z2 h2 => ?_))
  refine wpAny_standIf (wpAny_bind (thn h2 fun acc z3 h3 => ?_))
  refine wpAny_bind (wpAny_pure ?_)
  refine wpAny_bind (thn h3 fun ce z4 h4 => ?_)
  obtain ⟨hf, h4⟩ := h4
  dsimp only
  have own : ∀ y ∈ (scope.names.filter fun y => (y.2 == .local || y.2 == .cell) && y.1 != (".0" : Str)).reverse, y.2 = .local → Env.kindOf { ce with scope := relabel scope env } y.1 = some .local := fun y hy hl =>
    lookup_relabel_local (hn y (List.mem_filter.mp (List.mem_reverse.mp hy)).1 hl)
  refine wpAny_holding (wpAny_bind (wpAny_attempt (wpAny_holding (wpAny_run (codeAny_mono h4 fun r z5 h5 => ?_)))))
  match r, h5 with
  | .ok _, ⟨m, ns, q⟩ => exact wpAny_bind (wpAny_holding (wpAny_comp_letGo (cenv := { ce with scope := relabel scope env }) hk _ z5 m own ns fun g _ _ sb => wpAny_pure (q g sb)))
  | .error x, ⟨m, ns, q⟩ =>
    have key : ∀ (g : Heap) (c' : Env), c'.frame = env.frame → Heap.SameBut ce.locals z5.heap g → wpAny M A (PySem.passOn "comprehension.variables-let-go" x c' : Sem Value) Q E { z5 with heap := g } := fun g c' hf' sb => by
      rw [pass_cong hf']
      exact thn (q g sb) fun _ _ z => z.elim
    exact wpAny_bind (wpAny_holding (wpAny_comp_letGo (cenv := { ce with scope := relabel scope env }) hk _ z5 m own ns fun g _ _ sb => key g _ hf sb))
end
/-! ### an exception over a place whose object is dropped -/
theorem frames_but {h g B B2 : Heap} {C : Addr} : ∀ {l : List Env}, h.FunFrames B l → C ∉ frs l → Heap.SameBut C h g → (∀ b, B.get? b = none → B2.get? b = none) → g.FunFrames B2 l
  | [], _, _, _, _ => trivial
  | e :: l, hh, hC, sb, hB => by
    obtain ⟨hk, ⟨L, o, hf, hn, ho, hd⟩, hr⟩ := hh
    have m : ∀ b, b ∈ frs l → b ∈ frs (e :: l) := fun b hb => by
      obtain ⟨y, hy, q⟩ := List.mem_filterMap.mp hb
      exact List.mem_filterMap.mpr ⟨y, List.mem_cons_of_mem _ hy, q⟩
    have hL : L ≠ C := fun z => hC (by rw [← z]; exact List.mem_filterMap.mpr ⟨e, List.mem_cons_self, hf⟩)
    exact ⟨hk, ⟨L, o, hf, hB L hn, (sb.2 L hL).trans ho, hd⟩, frames_but hr (fun z => hC (m C z)) sb hB⟩
theorem hide_ne {h : Heap} {C b : Addr} {o : Obj} (e : (PySem.W.hideAll h [C]).get? b = some o) : b ≠ C ∧ h.get? b = some o := by
  refine ⟨fun z => ?_, PySem.W.of_hideAll _ e⟩
  rw [z, PySem.W.hideAll_none [C] (by simp)] at e
  exact nomatch e
theorem hide_get {h : Heap} {C b : Addr} {o : Obj} (e : h.get? b = some o) (n : b ≠ C) : (PySem.W.hideAll h [C]).get? b = some o := PySem.W.hideAll_get [C] e (by simpa using n)
theorem hide_none {h : Heap} {C b : Addr} (e : h.get? b = none) : (PySem.W.hideAll h [C]).get? b = none := by
  cases q : (PySem.W.hideAll h [C]).get? b with
  | none => rfl
  | some o =>
    rw [(hide_ne q).2] at e
    exact nomatch e
theorem held_drop {B h g : Heap} {l : List Env} {a C L : Addr} {Z : Obj → Prop} {m : Str → Option Value} (hh : HandSPX.HeldZ B l a Z L h) (hC : C ∉ frs l) (ns : h.Ns C m) (sb : Heap.SameBut C h g) : HandSPX.HeldZ (PySem.W.hideAll B [C]) l a Z L g := by
  obtain ⟨st, na, ff, oe, vs, T, oT, ts, he, hz, hd, h1, hnT, hTe, hT, hdT, h3⟩ := hh
  obtain ⟨oc, es, ep, ec, dc, _⟩ := ns
  have rc : ∀ {b : Addr} {o : Obj} {us : Array Value}, h.get? b = some o → o.data = .fields us → b ≠ C := fun {b o us} e d z => by
    rw [z, ec] at e
    cases e
    rw [dc] at d
    exact nomatch d
  refine ⟨fun b o e => ?_, hide_none na, frames_but ff hC sb fun b => hide_none, oe, vs, T, oT, ts, (sb.2 a (rc he hd)).trans he, hz, hd, h1, hide_none hnT, hTe, (sb.2 T (rc hT hdT)).trans hT, hdT, h3⟩
  obtain ⟨n, e⟩ := hide_ne e
  exact (sb.2 b n).trans (st b o e)
/-! ### contexts -/
theorem inv_xe {X : Cx} {pins : List (Addr × Obj)} {σ : L2.St} {H : Hp} {s : Shared} (xe : Value → Shared → Prop) (I : Inv X pins σ H s) : Inv { X with xe := xe } pins σ H s :=
  ⟨I.ok.toTry X.pn xe, I.os, I.bare, I.base, I.loc, I.cell, I.free, I.freeC, I.pin, I.hok, I.len⟩
theorem inv_ex {X : Cx} {pins : List (Addr × Obj)} {σ : L2.St} {H : Hp} {s : Shared} {xe : Value → Shared → Prop} (I : Inv { X with xe := xe } pins σ H s) : Inv X pins σ H s :=
  ⟨Cx.Ok.ofTry (X := X) (pn := X.pn) (xe := xe) I.ok, I.os, I.bare, I.base, I.loc, I.cell, I.free, I.freeC, I.pin, I.hok, I.len⟩
/-- what a call in the block lets out -/
def Air (Y : Cx) (W : WX) (u : Value) (z : Shared) : Prop :=
  ∃ (a : Addr) (B : Heap) (sI : Shared) (pins : List (Addr × Obj)) (σ : L2.St) (H : Hp) (cls : Value) (d : Option Addr), u = .ref a ∧ Inv Y pins σ H sI ∧ (∀ b o, sI.heap.get? b = some o → b ∉ frs Y.stack → B.get? b = some o) ∧ sI.heap.UpToSlots z.heap ∧
    HandSPX.FlyingZ B Y.stack a (L2N.Zn cls d) z.heap ∧ H a = none ∧ z.os = sI.os ∧ AllBare z.gens ∧ W cls d σ H
theorem air_of {Y : Cx} {W : WX} {pins : List (Addr × Obj)} {σ : L2.St} {H : Hp} {s z : Shared} {u : Value} (I : Inv Y pins σ H s) (c : L2N.CX Y.prog Y.w Y.stack H s (WE W σ) u z) : Air Y W u z := by
  obtain ⟨a0, _, _, _, _, rfl, fl, _⟩ := id c
  obtain ⟨a, B, sI, pins', σ', H', cls, d, e, J, nb, up, sky, na, os, ag, w⟩ := L2N.XE.of_call (W := W) I (fun _ _ _ h => h) c
  cases e
  obtain ⟨_, _, _, oe, vs, T, oT, ts, he, _, hd, h1, _, _, hT, hdT, h3⟩ := fl
  refine ⟨_, B, sI, pins', σ', H', cls, d, rfl, J, nb, up, ?_, na, os, ag, w⟩
  rcases sky with ⟨_, _, _, oe2, vs2, he2, _, hd2, q1⟩ | fl2 | ⟨_, _, _, oe2, vs2, T2, oT2, ts2, he2, _, hd2, q1, _, _, hT2, hdT2, q3⟩
  · rw [he] at he2
    cases he2
    rw [hd] at hd2
    cases hd2
    rw [h1] at q1
    exact nomatch q1
  · exact fl2
  · rw [he] at he2
    cases he2
    rw [hd] at hd2
    cases hd2
    rw [h1] at q1
    cases q1
    rw [hT] at hT2
    cases hT2
    rw [hdT] at hdT2
    cases hdT2
    rw [h3] at q3
    exact absurd (Option.some.inj q3) (by simp [rawInt])
/-! ### the rule -/
/-- the block's reading; W: what the element may let out, at the slots ahead of the block -/
def tLcW (wi : TI) (g : TG) (tt : TT) (te : WX → TE) (vs : List Nat) (W : WX) : TE := fun σ H Q => wi σ H fun J H1 => ∀ D, H1 D = none → ∃ Pw : Nat → Nat → Hp → Prop, (∃ m, Pw 0 m (upd H1 D (.lst []))) ∧ ∀ i m H, Pw i m H →
  (J.stop i H ∧ Q (.ref D) H) ∨ (J.go i H ∧ ∃ Nx : Hp → Prop, (∀ H', Nx H' → ∃ m', m' < m ∧ Pw (i + 1) m' H') ∧ ∀ x H', J.yld i H x H' → g x (wipe σ vs) H' fun σ2 H2 => wipe σ2 vs = wipe σ vs ∧ tt σ2 H2 fun b H3 =>
    if b = true then te (fun cls d _ Hx => W cls d σ Hx) σ2 H3 fun y H4 => ∃ acc, H4 D = some (.lst acc) ∧ acc.length < sizeLine ∧ Nx (upd H4 D (.lst (acc ++ [y]))) else Nx H3)
section
variable {X : Cx} {elt tg iter : Expr} {ifs : List Expr} {scope : Scope} {own : List (Str × Nat)} {pos : Pos} {wi : TI} {g : TG} {tt : TT} {te : WX → TE} {W : WX}
/-- an exception that left the block's element, told at the def's slots -/
theorem air_out {pins : List (Addr × Obj)} {σ : L2.St} {H3 : Hp} {s3 z : Shared} {fp : List Addr} {ce : Env} {u : Value} {Wc : WX} {Q : Value → Shared → Prop} {acc : Value} (hs : X.stack = X.env :: X.outer) (hf : X.env.frame = some X.env.locals) (tk : L2N.Takes X W)
    (I3 : Inv X pins σ H3 s3) (hp : ∀ b ∈ fp, FpOk X pins H3 b) (hce : ce.frame = X.env.frame) (hC : ce.locals = s3.heap.objs.size) (hW : ∀ cls d σ' H', Wc cls d σ' H' → W cls d σ H') (x : Air (X.blk s3 H3 scope ce fp) Wc u z) :
    notedBy (model X.prog X.w) X.A ce (fun e z' => CEnd (model X.prog X.w) X.A X.xe X.env Q acc s3.heap.objs.size (.error e) z') u z := by
  obtain ⟨a, B, sI, pinsY, σY, HY, cls, d, rfl, J, nb, up, fl, na, os, ag, w⟩ := x
  have hfr : X.A.frames = some (X.env :: X.outer) := by rw [I3.ok.frames, hs]
  have fl : HandSPX.FlyingZ B (X.env :: X.outer) a (L2N.Zn cls d) z.heap := by rw [← hs]; exact fl
  have big : ∀ b, b ∈ frs X.stack → b ≠ s3.heap.objs.size := fun b hb e => by
    obtain ⟨_, o, ho, _⟩ := I3.stack.mem hb
    exact absurd (Heap.lt_size ho) (by rw [e]; exact Nat.lt_irrefl _)
  have hCf : s3.heap.objs.size ∉ frs (X.env :: X.outer) := fun m => big _ (by rw [hs]; exact m) rfl
  have hYC : HY s3.heap.objs.size = none := by
    have q : HY ce.locals = none := J.free
    rw [hC] at q
    exact q
  show wpAny _ _ (noteFrame (.ref a) ce) _ _ _
  rw [note_cong hce]
  refine PySem.PXN.looks_onZ L2N.Zn.steady hfr hf fl fun h1 hh1 up1 => ?_
  obtain ⟨mm, nsI, _⟩ := J.loc
  have nsI : sI.heap.Ns s3.heap.objs.size mm := by rw [← hC]; exact nsI
  obtain ⟨oc, es, ep, ec, dc, rc⟩ := nsI
  have ns1 : h1.Ns s3.heap.objs.size mm := ⟨oc, es, ep, hh1.1 _ _ (nb _ _ ec fun m => hCf (by rw [← hs]; exact m)), dc, rc⟩
  refine ⟨mm, ns1, fun h2 sb => ?_⟩
  have hh2 := held_drop hh1 hCf ns1 sb
  obtain ⟨_, _, _, oe, vs, T, oT, ts, he, hz, hd, hv1, hT⟩ := id hh2
  unfold PySem.passOn
  refine wpAny_bind (wpAny_field he hd hv1 ?_)
  rw [if_neg (by simp)]
  rw [hf]
  refine wpAny_bind (HandSPX.setFlight_onZ hh2 fun h3 hh3 up3 => wpAny_throw (tk _ _ ?_))
  refine ⟨a, PySem.W.hideAll B [s3.heap.objs.size], { sI with heap := PySem.W.hideAll sI.heap [s3.heap.objs.size] }, pins, σ, HY, cls, d, rfl, ?_, fun b o e hb => ?_, fun b o e nf => ?_, .inr (.inr ?_), na, os, ag, hW _ _ _ _ w⟩
  · have bs := J.base
    refine I3.call' (ch := fp) J.os ⟨fun b o e n h1 h2 => ?_, fun b o e n h1 h2 => ?_, bs.free, fun b o e h1 => ?_, bs.tups, bs.frzs, bs.tbls⟩ (fun b o q => ?_) J.bare fun b hb => ?_
    · exact hide_get (bs.keep b o e n h1 h2) fun z => absurd (Heap.lt_size e) (by rw [z]; exact Nat.lt_irrefl _)
    · obtain ⟨sl, q⟩ := bs.slot b o e n h1 h2
      exact ⟨sl, hide_get q fun z => absurd (Heap.lt_size e) (by rw [z]; exact Nat.lt_irrefl _)⟩
    · obtain ⟨o', q⟩ := bs.there b o e h1
      exact ⟨o', hide_get q fun z => absurd (Heap.lt_size e) (by rw [z]; exact Nat.lt_irrefl _)⟩
    · refine (J.hok b o q).stay (fun c v hc r => hide_get r fun z => ?_) (fun _ r => r) fun _ _ r => r
      rw [z] at hc
      rcases hc with hc | hc
      · rw [hc, q] at hYC
        exact nomatch hYC
      · rw [hc] at hYC
        exact nomatch hYC
    · obtain ⟨_, k1, _, k2, k3, k4⟩ := hp b hb
      exact ⟨k2, k1, k3, k4⟩
  · obtain ⟨n, e⟩ := hide_ne e
    exact hide_get (nb b o e hb) n
  · obtain ⟨n, e⟩ := hide_ne e
    obtain ⟨sl, q⟩ := (up.trans up1) b o e nf
    obtain ⟨sl2, q2⟩ := up3 b { o with slots := sl } ((sb.2 b n).trans q) nf
    exact ⟨sl2, q2⟩
  · rw [hs]
    exact hh3
theorem pe_lcW (hcm : X.calm = true) (hs : X.stack = X.env :: X.outer) (hf : X.env.frame = some X.env.locals) (tk : L2N.Takes X W) (hN : X.N.Nodup) (hi : PI X tg iter wi) (ok : BlkOk X.N X.env.scope scope own)
    (hg : ∀ (s : Shared) (H : Hp) (C : Addr) (cl : List (Str × Addr)) (fp : List Addr), PG (X.blk s H scope (compEnvC scope cl C X.env) fp) tg g)
    (ht : ∀ (s : Shared) (H : Hp) (C : Addr) (cl : List (Str × Addr)) (fp : List Addr), PTs (X.blk s H scope (compEnvC scope cl C X.env) fp) ifs tt)
    (he : ∀ (s : Shared) (H : Hp) (C : Addr) (cl : List (Str × Addr)) (fp : List Addr) (Wc : WX) (xe : Value → Shared → Prop),
      (∀ σ, PassesAt (L2N.CX X.prog X.w) { X.blk s H scope (compEnvC scope cl C X.env) fp with xe := xe } σ (WE Wc σ)) → PE { X.blk s H scope (compEnvC scope cl C X.env) fp with xe := xe } elt (te Wc))
    (hfold : ∀ x, foldedSetIterable iter X.env x = pure x := by intro _; rfl) :
    PE X (.ListComp elt [⟨tg, iter, ifs, 0⟩] scope pos) (tLcW wi g tt te (own.map (·.2)) W) := by
  refine ⟨fun pins s σ H Q I h => ?_⟩
  have fre : ∀ y ∈ scope.names, y.2 = .free → ∃ c, X.env.cells.lookup y.1 = some c := fun y hy e => (ok.free y hy e).elim (fun k => I.ok.has _ (.inl k)) fun k => I.ok.has _ (.inr k)
  rw [eval_ListComp]
  refine comp_own rfl hfold (closure_ok fre) ok.kind (fun y hy e => by rw [ok.uniq y hy, e]) (thn (hi.run pins s σ H _ I h) fun xv s1 hx => thn hx fun itv s2 h2 => ?_)
  obtain ⟨it, fp, tn, J, H2, rfl, I2, T, st2, f2, q⟩ := h2
  refine wpAny_newObj_type (newEnv_comp ?_) (by show 0 ≤ sizeLine; decide)
  obtain ⟨D, hD⟩ : ∃ D, s2.heap.objs.size = D := ⟨_, rfl⟩
  have hDn : H2 D = none := I2.hok.fresh (Nat.le_of_eq hD)
  obtain ⟨Pw, ⟨m0, w0⟩, turn⟩ := q D hDn
  rw [hD]
  obtain ⟨s3, hs3⟩ : ∃ z : Shared, z = { s2 with heap := s2.heap.push { cls := .type "list", data := .seq ([] : List Value).toArray } } := ⟨_, rfl⟩
  have e3 : s3.heap = s2.heap.push { cls := .type "list", data := .seq ([] : List Value).toArray } := by rw [hs3]
  have k3 : ∀ b o, s2.heap.get? b = some o → s3.heap.get? b = some o := fun b o e => by rw [e3]; exact Heap.get?_push_of_some _ e
  have I3 : Inv X pins σ (upd H2 D (.lst [])) s3 := by
    have z := I2.laid (t' := s2.toks) (h' := s3.heap) (a := D) (o := .lst []) k3 (Nat.le_of_eq hD) ⟨Nat.zero_le _, [], 0, .nil, by rw [← hD, e3]; exact Heap.get?_push_size _ rfl⟩
    rw [hs3] at z ⊢
    exact z
  have low : ∀ b ∈ fp, b < s2.heap.objs.size := fun b hb => (T.obj _ _ st2 b hb).elim fun o e => Heap.lt_size e.1
  have f3 : ∀ b ∈ fp, FpOk X pins (upd H2 D (.lst [])) b ∧ b < s3.heap.objs.size := fun b hb => by
    obtain ⟨g0, gr⟩ := f2 b hb
    refine ⟨⟨?_, gr⟩, by rw [e3, Heap.size_push]; exact Nat.lt_succ_of_lt (low b hb)⟩
    rw [upd_ne fun z => absurd (low b hb) (by rw [z, ← hD]; exact Nat.lt_irrefl _)]
    exact g0
  have st3 : tn 0 s3.heap := T.keep _ _ _ st2 fun b _ o e => k3 b o e
  have I4 := block_start I3 ok hN f3
  rw [← hs3]
  generalize hcl : cellsFrom (s3.heap.objs.size + 1) scope.names (cloFrom X.env.cells scope.names []) = cl at I4
  have hcl2 := hcl
  generalize hH3 : upd H2 D (.lst []) = H3 at I3 I4 f3 w0
  have pg := hg s3 H3 s3.heap.objs.size cl fp
  have pt := ht s3 H3 s3.heap.objs.size cl fp
  generalize hs4 : ({ s3 with heap := pushCells (s3.heap.push { cls := .type "dict", data := .dict #[] }) scope.names } : Shared) = s4 at I4
  have st4 : tn 0 s4.heap := T.keep _ _ _ st3 fun b _ o e => by rw [← hs4]; exact pushCells_keeps _ _ _ _ (Heap.get?_push_of_some _ e)
  have hfp : ∀ b ∈ fp, FpOk X pins H3 b := fun b hb => (f3 b hb).1
  have pe := he s3 H3 s3.heap.objs.size cl fp (fun cls d _ Hx => W cls d σ Hx) (Air (X.blk s3 H3 scope (compEnvC scope cl s3.heap.objs.size X.env) fp) fun cls d _ Hx => W cls d σ Hx)
    (fun σ' pins' H' z e z' J c => air_of (inv_ex J) c)
  have hout : ∀ (u : Value) (z : Shared), Air (X.blk s3 H3 scope (compEnvC scope cl s3.heap.objs.size X.env) fp) (fun cls d _ Hx => W cls d σ Hx) u z → notedBy (model X.prog X.w) X.A (compEnvC scope cl s3.heap.objs.size X.env)
      (fun e z' => CEnd (model X.prog X.w) X.A X.xe X.env (fun v z => EP X pins σ Q v z) (.ref D) s3.heap.objs.size (.error e) z') u z := fun u z x => air_out (Q := fun v z => EP X pins σ Q v z) (acc := .ref D) hs hf tk I3 hfp rfl rfl (fun _ _ _ _ w => w) x
  generalize hce : compEnvC scope cl s3.heap.objs.size X.env = ce at I4 pg pt pe hout
  have cL : ce.locals = s3.heap.objs.size := by rw [← hce]; rfl
  refine ⟨rfl, ?_⟩
  suffices hgo : codeAny (model X.prog X.w) X.A (.compStart (.ListComp elt [⟨tg, iter, ifs, 0⟩] scope pos) 0 (.ref it) (.ref D) ce) (CEnd (model X.prog X.w) X.A X.xe X.env (EP X pins σ Q) (.ref D) s3.heap.objs.size) s4 by
    rw [← hce] at hgo
    exact hgo
  have n3 : ∀ b ∈ fp, H3 b = none := fun b hb => (hfp b hb).1
  have fpY : ∀ {σ' : L2.St} {H' : Hp} {z : Shared}, Inv (X.blk s3 H3 scope ce fp) [] σ' H' z → (∀ b ∈ fp, H' b = none) → ∀ b ∈ fp, FpOk (X.blk s3 H3 scope ce fp) [] H' b := fun {σ' H' z} IY hn b hb => by
    have oy := IY.ok
    exact ⟨hn b hb, (oy.exf b hb).1, oy.exfs b hb, .inl hb, fun x c e => (oy.exf b hb).2 x c e, fun p hp => by cases (show p ∈ ([] : List (Addr × Obj)) from hp)⟩
  have loop : codeAny (model X.prog X.w) X.A (.compLoop (.ListComp elt [⟨tg, iter, ifs, 0⟩] scope pos) 0 (.ref it) (.ref D) ce) (CEnd (model X.prog X.w) X.A X.xe X.env (EP X pins σ Q) (.ref D) s3.heap.objs.size) s4 := by
    refine compLoop_any (fun n z => ∃ i Hz, Inv (X.blk s3 H3 scope ce fp) [] (wipe σ (own.map (·.2))) Hz z ∧ tn i z.heap ∧ (∀ b ∈ fp, Hz b = none) ∧ Pw i n Hz) (fun n z5 h5 => ?_) m0 ⟨0, H3, I4, st4, n3, w0⟩
    obtain ⟨i, H5, I5, t5, n5, w5⟩ := h5
    rcases turn i n H5 w5 with ⟨stop, qq⟩ | ⟨go, Nx, hNx, step⟩
    · refine thnF (T.done (X.blk s3 H3 scope ce fp) rfl rfl rfl hcm i [] z5 _ H5 (fun _ _ => False) I5 (fpY I5 n5) t5 stop) fun r z6 h6 => ?_
      obtain ⟨rfl, I6⟩ := h6
      have I7 : Inv X pins σ H5 z6 := I3.call' (ch := fp) I6.os I6.base I6.hok I6.bare fun b hb => by
        obtain ⟨_, k1, _, k2, k4, k5⟩ := hfp b hb
        exact ⟨k2, k1, k4, k5⟩
      have nC : H5 s3.heap.objs.size = none := by
        have z : H5 ce.locals = none := I6.free
        rwa [cL] at z
      obtain ⟨m, ns, _⟩ := I6.loc
      have ns : z6.heap.Ns s3.heap.objs.size m := by
        have z : z6.heap.Ns ce.locals m := ns
        rwa [cL] at z
      obtain ⟨g0, g1, g2, g4, g5, g6⟩ := I3.fpOk (Nat.le_refl _) nC
      exact ⟨m, ns, fun g sb => ⟨.ref D, H5, I7.turned (t' := z6.toks) (fun b o hb e => (sb.2 b hb).trans e) g0 g1 g4 g5 g6, rfl, qq⟩⟩
    · refine thnF (T.item (X.blk s3 H3 scope ce fp) rfl rfl rfl hcm i [] z5 _ H5 (fun _ _ => False) I5 (fpY I5 n5) t5 go) fun r z6 h6 => ?_
      obtain ⟨u, rfl, h6⟩ := h6
      refine thnF h6 fun _ z7 h7 => ?_
      obtain ⟨x, H7, I7, rx, y7, t7, n7⟩ := h7
      refine thnF (pg.run _ z7 _ H7 x u _ (I7.pinned (fpY I7 n7) (T.obj _ _ t7)) rx (step x H7 y7)) fun _ z8 h8 => ?_
      obtain ⟨σ8, H8, I8, hw, q8⟩ := h8
      refine thnF (pt.run _ z8 σ8 H8 _ I8 q8) fun b z9 h9 => ?_
      obtain ⟨H9, I9, q9⟩ := h9
      have next : ∀ {z : Shared} {Hz : Hp}, Inv (X.blk s3 H3 scope ce fp) ([] ++ pinsAt fp z7.heap) σ8 Hz z → Nx Hz → ∃ m, m < n ∧ ∃ j Hj, Inv (X.blk s3 H3 scope ce fp) [] (wipe σ (own.map (·.2))) Hj z ∧ tn j z.heap ∧ (∀ b ∈ fp, Hj b = none) ∧ Pw j m Hj := fun {z Hz} Iz nx => by
        obtain ⟨m', lt, w'⟩ := hNx Hz nx
        have pinned : ∀ b ∈ fp, ∀ o, z7.heap.get? b = some o → z.heap.get? b = some o ∧ Hz b = none := fun b hb o e => by
          have p := Iz.pin (b, o) (List.mem_append_right _ (List.mem_append_right _ (mem_pinsAt hb e)))
          exact ⟨p.1, p.2.1⟩
        refine ⟨m', lt, i + 1, Hz, (Iz.unpinned (pins := [])).weak (by rw [← hw, wipe_length]) (fun j v e => (wipe_some (vs := own.map (·.2)) (by rw [hw]; exact e)).1), T.keep _ _ _ t7 fun b hb o e => (pinned b hb o e).1, fun b hb => ?_, w'⟩
        obtain ⟨o, e, _⟩ := T.obj _ _ t7 b hb
        exact (pinned b hb o e).2
      cases b with
      | false => exact next I9 q9
      | true =>
        refine wpAny_mono (pe.run _ z9 σ8 H9 _ (inv_xe _ I9) q9) (fun y z10 h10 => ?_) fun e z10 h10 => hout e z10 h10
        obtain ⟨yv, H10, I10, ry, acc, hacc, hz10, nx⟩ := h10
        exact app_ok (X := X.blk s3 H3 scope ce fp) (inv_ex I10) hacc hz10 ry fun z11 I11 => next I11 nx
  exact codeAny_compStart_list loop (T.self X.A 0 _ _ _ st4 loop)
end

/-! ### exceptions that may be caught where another is raised (HandS's L2N) -/
section
variable {X : Cx}
theorem mk_own0N {C : Addr} {bmB : List Value} {B newId initId : String} {x : Str} {p pos : Pos} (F : ExcBaseFacts B newId initId bmB) (q : PySem.W.excIn X.K C bmB newId = true) (gC : X.mg x = some (.ref C)) (kC : PySem.W.keepIn X.K (.ref C) = true) (r : Raises X (.ref C)) (hg : Gl X x)
    (hdb : (x == ("__debug__" : Str)) = false := by decide) : L2N.PMk X (.Call (.Name x p) [] [] pos) (fun _ H Q => Q (.ref C) none H) := fun pins s σ H Q I h => by
  refine wpAny_Call_Name_kw (ld_glob I hg gC (PySem.W.callWith_K0 I.kIn kC ?_) hdb)
  obtain ⟨_, _, _, _, _, _, _, _, _, _, _, _, _, _, _, _, _, hC, hN, hni, T⟩ := exc_obj I.kIn q
  show wpAny _ _ (call (.ref C) []) _ _ _
  exact wpAny_call_exc_subT F T hC hN hni (fun h' e hm => L2N.mk_of I hm r h (I.hok.gone hm.new)) (Nat.zero_le _)
theorem p_raise0N {W : WX} {C : Addr} {bmB : List Value} {B newId initId : String} {x : Str} {p pos pos2 : Pos} (hc : X.calm = true) (tk : L2N.Takes X W) (F : ExcBaseFacts B newId initId bmB) (q : PySem.W.excIn X.K C bmB newId = true) (gC : X.mg x = some (.ref C))
    (kC : PySem.W.keepIn X.K (.ref C) = true) (b1 : PySem.W.subIn X.K (.ref C) (.type "BaseException") = some true) (b2 : PySem.W.typeIn X.K (.ref C) = some (.type "type")) (hg : Gl X x) (hdb : (x == ("__debug__" : Str)) = false := by decide) :
    PS X (.Raise (some (.Call (.Name x p) [] [] pos)) none pos2) (mRaise0 C W) := L2N.ps_raise hc tk (mk_own0N F q gC kC (raises_own b1 b2) hg hdb)
theorem p_tryX {x : Str} {c : Value} {body suite : List Stmt} {b₀ : Stmt} {np pos pos' : Pos} {tb : WX → TS} {ts : TCl} {Wout : WX} (hs : X.stack = X.env :: X.outer) (hf : X.env.frame = some X.env.locals) (hc : Names X x c)
    (hpa : ∀ hd : Option Value, PassesOwnAt (model X.prog X.w) (X.A.mark hd) X.A X.env X.xe) (tk : L2.Takes X Wout)
    (hb : ∀ (W : WX) (pn : List (Addr × Obj)) (xe : Value → Shared → Prop), L2N.Takes (X.tr pn xe) W → L2.Takes (X.tr pn xe) (L2H.wPass X.K c Wout) → PassesOwn (model X.prog X.w) X.A X.env xe → PSs (X.tr pn xe) body (tb W))
    (hsu : ∀ (a : Addr) (oe : Obj) (cls : Value) (d : Option Addr) (pn : List (Addr × Obj)), L2N.Zn cls d oe → (∃ vs, oe.data = .fields vs) → L2.Takes (L2H.suiteX X a ((a, oe) :: pn)) Wout → L2H.HotC (L2H.suiteX X a ((a, oe) :: pn)) → PSs (L2H.suiteX X a ((a, oe) :: pn)) (b₀ :: suite) (ts a cls d)) :
    PS X (.Try body [.ExceptHandler (some (.Name x np)) none (b₀ :: suite) pos'] [] [] pos) (mTryOnly X.K c tb ts Wout) := L2H.ps_try_onlyX hs hf hc hpa tk hb hsu
theorem roomH_mk {k : Nat} {A : Around} {hd : Option Value} (r : Room k A) : L2H.RoomH k (A.mark hd) := ⟨r.dp, r.un⟩
end
section
variable {P : Program} {w : World} {K : PySem.W.Frag} {mg : Str → Option Value} {base : Heap}
/-- a def of which CX tells what leaves it -/
theorem okF {CX : CXT} {x qual : Str} {st : Stmt} {f : Addr} {fd : FuncData} {N ps : List Str} {k : Nat} {sp : Sp} (F : Fun K x qual st f fd) (S : FnScope N ps (defScope st)) (len : ∀ vs H Q E, sp vs H Q E → vs.length = ps.length)
    (hbody : ∀ (cdv : Value) (A : Around) (outer : List Env) (s : Shared) (H : Hp) (vs : List V) (Q : VK) (E : XK), Room k (A.deeper (envOfC qual (defScope st) s.heap.objs.size f cdv)) → sp vs H Q E →
      ∃ t, PSs (cxOf CX P w K mg base N qual (defScope st) f cdv A outer s H E) (defBody st) t ∧ t { nx := fun _ H' => Q .non H', rt := Q } (start N vs) H) : FnOk P w K mg base CX (k + 1) f fd ps sp := by
  obtain ⟨oc, od, kV, doc, pm, an, cdv, ct, osl, rfl, lk, hcd⟩ := F.ex
  exact fn_of lk hcd S len fun A outer s H vs Q E => hbody cdv A outer s H vs Q E
end
section
variable {wi : TI} {g : TG} {tt : TT} {te : WX → TE} {vs : List Nat} {W : WX} {σ : L2.St} {H : Hp} {Q : VK}
theorem a_lcW : tLcW wi g tt te vs W σ H Q = wi σ H fun J H1 => Lc J g tt (te fun cls d _ Hx => W cls d σ Hx) vs σ H1 Q := rfl
end

/-! ### the promises of the laws' own helpers -/
/-- where the classes stand -/
structure Ad where
  c_RecordError : Addr
  c_BadSchema : Addr
  c_BadField : Addr
  c_OutOfRange : Addr
  c_Full : Addr
  c_Leased : Addr
  c_BadImage : Addr
  c_BadJournal : Addr
  c_BadArgument : Addr
  c_Work : Addr
  c_Device : Addr
  c_Words : Addr
  c_NoEntry : Addr
  c_Reading : Addr
  k : Nat → Addr
  t : Nat → Addr
def A0 : Ad := ⟨0, 0, 0, 0, 0, 0, 0, 0, 0, 0, 0, 0, 0, 0, fun _ => 0, fun _ => 0⟩
def sp__law_cell (K : PySem.W.Frag) (A : Ad) : Sp := fun vs H Q _ => ∃ (a : Addr) (ns : List Int) (i : Int), vs = [.ref a, .int i] ∧ SqL K H a (ns.map V.int) ∧ 0 ≤ i ∧ ∀ z H', Same H H' → Q (.int z) H'
def sp__law_digits (K : PySem.W.Frag) (A : Ad) : Sp := fun vs H Q _ => ∃ (a : Addr) (ns : List Int) (f l : Int), vs = [.ref a, .int f, .int l] ∧ SqL K H a (ns.map V.int) ∧ 0 ≤ f ∧ f ≤ 1000 ∧ 0 ≤ l ∧ l ≤ 1000 ∧
  ∀ (p : Addr) (H' : Hp) (ds : List Int), Same H H' → H p = none → H' p = some (.lst (ds.map V.int)) → Q (.ref p) H'
def sp__law_draw (K : PySem.W.Frag) (A : Ad) : Sp := fun vs H Q _ => ∃ (b g : Addr) (ds : List Int) (i m : Int), vs = [.ref b, .int m] ∧ H b = some (.lst [.ref g, .int i]) ∧ H g = some (.lst (ds.map V.int)) ∧ b ≠ g ∧ 0 ≤ i ∧ i < 2 ^ 60 ∧ 0 < m ∧
  ∀ z H', 0 ≤ z → z < m → KBs H H' [b] → H' b = some (.lst [.ref g, .int (i + 1)]) → Q (.int z) H'
section
variable {K : PySem.W.Frag} {A : Ad} {H0 H : Hp} {S : List Addr} {L : List (Addr × Ent)} {I : List (V × PyData)} {Q : VK} {E : XK}
/-- a draw: the box stands at the n-th place of the ledger, its digits right behind -/
theorem h_draw (n : Nat) (h : Led K H0 S H L I) {b g : Addr} {ds : List Int} {i m : Int} (e : L[n]? = some (b, .raw (.lst [.ref g, .int i]))) (e2 : L[n + 1]? = some (g, .raw (.lst (ds.map V.int)))) (h0 : 0 ≤ i) (h1 : i < 2 ^ 60) (h2 : 0 < m)
    (hs : H0 b = none ∨ b ∈ S) (k : ∀ z H', 0 ≤ z → z < m → Led K H0 S H' (L.set n (b, .raw (.lst [.ref g, .int (i + 1)]))) I → Q (.int z) H') : sp__law_draw K A [.ref b, .int m] H Q E :=
  ⟨b, g, ds, i, m, rfl, h.raw n e, h.raw (n + 1) e2, h.ne n (n + 1) e e2 (by omega), h0, h1, h2, fun z H' z0 z1 kb he => k z H' z0 z1 (h.wr n e kb (h.raw n e) rfl he hs)⟩
end

local macro_rules | `(tactic| walk_at "im") => `(tactic| (first | apply Im.int | apply Im.str | apply Im.bl | apply Im.non | assumption | (apply h_imm 0; (case h => assumption); (case e => with_unfolding_all rfl)) | (apply h_imm 1; (case h => assumption); (case e => with_unfolding_all rfl)) | (apply h_imm 2; (case h => assumption); (case e => with_unfolding_all rfl)) | (apply h_imm 3; (case h => assumption); (case e => with_unfolding_all rfl)) | (apply h_imm 4; (case h => assumption); (case e => with_unfolding_all rfl)) | (apply h_imm 5; (case h => assumption); (case e => with_unfolding_all rfl))))
local macro_rules | `(tactic| walk_at "ims") => `(tactic| repeat (first | apply Ims.nil | (apply Ims.cons; (focus (first | apply Im.int | apply Im.str | apply Im.bl | apply Im.non | assumption | (apply h_imm 0; (case h => assumption); (case e => with_unfolding_all rfl)) | (apply h_imm 1; (case h => assumption); (case e => with_unfolding_all rfl)) | (apply h_imm 2; (case h => assumption); (case e => with_unfolding_all rfl)) | (apply h_imm 3; (case h => assumption); (case e => with_unfolding_all rfl)) | (apply h_imm 4; (case h => assumption); (case e => with_unfolding_all rfl)) | (apply h_imm 5; (case h => assumption); (case e => with_unfolding_all rfl)))))))
local macro_rules | `(tactic| walk_at "sz") => `(tactic| (rw [sizeLine_eq]; ((try simp only [List.length_append, List.length_cons, List.length_nil, List.length_map, List.length_replicate, List.length_set, List.length_take, List.length_drop]) <;> omega)))
local macro_rules | `(tactic| walk_at "fr") => `(tactic| (first | assumption | (apply Or.inl; assumption) | (apply Or.inr; simp)))
local macro_rules | `(tactic| walk_at "ds") => `(tactic| dsimp only [a_lk0, a_lk1, a_lkS, a_V, a_vl, a_c, a_op, a_un, a_test, a_toB, a_tr, a_trB, a_trI, a_trN, a_and, a_or, a_not, a_andV, a_orV, a_notV, a_ifE, a_nil, a_cons, a_lst, a_tup, a_call, a_CB, a_BM, a_BM0, a_sl, a_part, a_partI, a_noPart, a_seq, a_next, a_brk, a_cont, a_asg, a_name, a_drop, a_ret, a_retN, a_if, a_aug, a_for, a_lc, a_jR1, a_jR2, a_jL, a_jT, a_rg1, a_rg2, a_gsub, a_yes, a_addI, a_addS, a_addR, a_iaddI, a_iaddS, a_sub, a_mulI, a_mulR, a_fdiv, a_mod, a_pow, a_shl, a_shr, a_lt, a_le, a_gt, a_ge, a_neg, a_EqI, a_EqS, a_EqB, a_EqNN, a_EqIN, a_EqNI, a_EqSN, a_EqNS, a_EqRR, a_EqRN, a_EqNR, a_NeI, a_NeS, a_NeB, a_NeNN, a_NeIN, a_NeNI, a_NeSN, a_NeNS, a_NeRR, a_NeRN, a_NeNR, a_isNN, a_isNI, a_isNS, a_isNB, a_isNR, a_notNN, a_notNI, a_notNS, a_notNB, a_notNR, a_intI, a_intB, a_abs, a_gnil, a_gcons, a_callS, a_raise0, a_tryAs, a_tryOnly, a_rev, a_jR3, wipe, List.set, List.nil_append, List.cons_append])
local macro_rules | `(tactic| walk_at "gs") => `(tactic| repeat (first | dsimp only [a_lk0, a_lk1, a_lkS, a_V, a_vl, a_c, a_op, a_un, a_test, a_toB, a_tr, a_trB, a_trI, a_trN, a_and, a_or, a_not, a_andV, a_orV, a_notV, a_ifE, a_nil, a_cons, a_lst, a_tup, a_call, a_CB, a_BM, a_BM0, a_sl, a_part, a_partI, a_noPart, a_seq, a_next, a_brk, a_cont, a_asg, a_name, a_drop, a_ret, a_retN, a_if, a_aug, a_for, a_lc, a_jR1, a_jR2, a_jL, a_jT, a_rg1, a_rg2, a_gsub, a_yes, a_addI, a_addS, a_addR, a_iaddI, a_iaddS, a_sub, a_mulI, a_mulR, a_fdiv, a_mod, a_pow, a_shl, a_shr, a_lt, a_le, a_gt, a_ge, a_neg, a_EqI, a_EqS, a_EqB, a_EqNN, a_EqIN, a_EqNI, a_EqSN, a_EqNS, a_EqRR, a_EqRN, a_EqNR, a_NeI, a_NeS, a_NeB, a_NeNN, a_NeIN, a_NeNI, a_NeSN, a_NeNS, a_NeRR, a_NeRN, a_NeNR, a_isNN, a_isNI, a_isNS, a_isNB, a_isNR, a_notNN, a_notNI, a_notNS, a_notNB, a_notNR, a_intI, a_intB, a_abs, a_gnil, a_gcons, a_callS, a_raise0, a_tryAs, a_tryOnly, a_rev, a_jR3, wipe, List.set, List.nil_append, List.cons_append] | with_reducible (first
  | (apply h_draw 0; (case h => assumption); (case e => with_unfolding_all rfl); (case e2 => with_unfolding_all rfl); (case h0 => (first | decide | omega)); (case h1 => (first | decide | omega)); (case h2 => (first | decide | omega)); (case hs => (first | assumption | (apply Or.inl; assumption) | (apply Or.inr; simp))))
  | (apply h_draw 1; (case h => assumption); (case e => with_unfolding_all rfl); (case e2 => with_unfolding_all rfl); (case h0 => (first | decide | omega)); (case h1 => (first | decide | omega)); (case h2 => (first | decide | omega)); (case hs => (first | assumption | (apply Or.inl; assumption) | (apply Or.inr; simp))))
  | (apply h_draw 2; (case h => assumption); (case e => with_unfolding_all rfl); (case e2 => with_unfolding_all rfl); (case h0 => (first | decide | omega)); (case h1 => (first | decide | omega)); (case h2 => (first | decide | omega)); (case hs => (first | assumption | (apply Or.inl; assumption) | (apply Or.inr; simp))))
  | (apply h_draw 3; (case h => assumption); (case e => with_unfolding_all rfl); (case e2 => with_unfolding_all rfl); (case h0 => (first | decide | omega)); (case h1 => (first | decide | omega)); (case h2 => (first | decide | omega)); (case hs => (first | assumption | (apply Or.inl; assumption) | (apply Or.inr; simp))))
  | (apply h_ixL 0; (case h => assumption); (case e => with_unfolding_all rfl); (case hx => with_unfolding_all rfl))
  | (apply h_ixL 1; (case h => assumption); (case e => with_unfolding_all rfl); (case hx => with_unfolding_all rfl))
  | (apply h_ixL 2; (case h => assumption); (case e => with_unfolding_all rfl); (case hx => with_unfolding_all rfl))
  | (apply h_ixL 3; (case h => assumption); (case e => with_unfolding_all rfl); (case hx => with_unfolding_all rfl))
  | (apply h_ixL 4; (case h => assumption); (case e => with_unfolding_all rfl); (case hx => with_unfolding_all rfl))
  | (apply h_ixTv; (case hd => (first | apply Im.int | apply Im.str | apply Im.bl | apply Im.non | assumption | (apply h_imm 0; (case h => assumption); (case e => with_unfolding_all rfl)) | (apply h_imm 1; (case h => assumption); (case e => with_unfolding_all rfl)) | (apply h_imm 2; (case h => assumption); (case e => with_unfolding_all rfl)) | (apply h_imm 3; (case h => assumption); (case e => with_unfolding_all rfl)) | (apply h_imm 4; (case h => assumption); (case e => with_unfolding_all rfl)) | (apply h_imm 5; (case h => assumption); (case e => with_unfolding_all rfl)))); (case h0 => (first | decide | omega)); (case hx => with_unfolding_all rfl); (case hv => with_unfolding_all rfl))
  | (apply h_slPre; (case h => assumption); (case hd => (first | apply Im.int | apply Im.str | apply Im.bl | apply Im.non | assumption | (apply h_imm 0; (case h => assumption); (case e => with_unfolding_all rfl)) | (apply h_imm 1; (case h => assumption); (case e => with_unfolding_all rfl)) | (apply h_imm 2; (case h => assumption); (case e => with_unfolding_all rfl)) | (apply h_imm 3; (case h => assumption); (case e => with_unfolding_all rfl)) | (apply h_imm 4; (case h => assumption); (case e => with_unfolding_all rfl)) | (apply h_imm 5; (case h => assumption); (case e => with_unfolding_all rfl)))); (case h0 => (first | decide | omega)))
  | (apply h_gtupV; (case h => (first | apply Im.int | apply Im.str | apply Im.bl | apply Im.non | assumption | (apply h_imm 0; (case h => assumption); (case e => with_unfolding_all rfl)) | (apply h_imm 1; (case h => assumption); (case e => with_unfolding_all rfl)) | (apply h_imm 2; (case h => assumption); (case e => with_unfolding_all rfl)) | (apply h_imm 3; (case h => assumption); (case e => with_unfolding_all rfl)) | (apply h_imm 4; (case h => assumption); (case e => with_unfolding_all rfl)) | (apply h_imm 5; (case h => assumption); (case e => with_unfolding_all rfl)))); (case hn => with_unfolding_all rfl); (case hv => with_unfolding_all rfl))
  | (apply h_isiB)
  | (apply h_eqr)
  | (apply iteT)
  | (apply h_nT)
  | (apply h_nF)
  | (apply iteF)
  | (apply h_brT)
  | (apply h_brF)
  | (apply h_brET)
  | (apply h_brEF)
  | (apply h_brNT)
  | (apply h_brNF)
  | (apply h_append 0; (case h => assumption); (case e => with_unfolding_all rfl); (case hs => (first | assumption | (apply Or.inl; assumption) | (apply Or.inr; simp))); (case z => (rw [sizeLine_eq]; ((try simp only [List.length_append, List.length_cons, List.length_nil, List.length_map, List.length_replicate, List.length_set, List.length_take, List.length_drop]) <;> omega))))
  | (apply h_append 1; (case h => assumption); (case e => with_unfolding_all rfl); (case hs => (first | assumption | (apply Or.inl; assumption) | (apply Or.inr; simp))); (case z => (rw [sizeLine_eq]; ((try simp only [List.length_append, List.length_cons, List.length_nil, List.length_map, List.length_replicate, List.length_set, List.length_take, List.length_drop]) <;> omega))))
  | (apply h_append 2; (case h => assumption); (case e => with_unfolding_all rfl); (case hs => (first | assumption | (apply Or.inl; assumption) | (apply Or.inr; simp))); (case z => (rw [sizeLine_eq]; ((try simp only [List.length_append, List.length_cons, List.length_nil, List.length_map, List.length_replicate, List.length_set, List.length_take, List.length_drop]) <;> omega))))
  | (apply h_append 3; (case h => assumption); (case e => with_unfolding_all rfl); (case hs => (first | assumption | (apply Or.inl; assumption) | (apply Or.inr; simp))); (case z => (rw [sizeLine_eq]; ((try simp only [List.length_append, List.length_cons, List.length_nil, List.length_map, List.length_replicate, List.length_set, List.length_take, List.length_drop]) <;> omega))))
  | (apply h_append 4; (case h => assumption); (case e => with_unfolding_all rfl); (case hs => (first | assumption | (apply Or.inl; assumption) | (apply Or.inr; simp))); (case z => (rw [sizeLine_eq]; ((try simp only [List.length_append, List.length_cons, List.length_nil, List.length_map, List.length_replicate, List.length_set, List.length_take, List.length_drop]) <;> omega))))
  | (apply h_appendD 0; (case h => assumption); (case e => with_unfolding_all rfl); (case hd => (first | apply Im.int | apply Im.str | apply Im.bl | apply Im.non | assumption | (apply h_imm 0; (case h => assumption); (case e => with_unfolding_all rfl)) | (apply h_imm 1; (case h => assumption); (case e => with_unfolding_all rfl)) | (apply h_imm 2; (case h => assumption); (case e => with_unfolding_all rfl)) | (apply h_imm 3; (case h => assumption); (case e => with_unfolding_all rfl)) | (apply h_imm 4; (case h => assumption); (case e => with_unfolding_all rfl)) | (apply h_imm 5; (case h => assumption); (case e => with_unfolding_all rfl)))); (case hs => (first | assumption | (apply Or.inl; assumption) | (apply Or.inr; simp))); (case z => (rw [sizeLine_eq]; ((try simp only [List.length_append, List.length_cons, List.length_nil, List.length_map, List.length_replicate, List.length_set, List.length_take, List.length_drop]) <;> omega))))
  | (apply h_appendD 1; (case h => assumption); (case e => with_unfolding_all rfl); (case hd => (first | apply Im.int | apply Im.str | apply Im.bl | apply Im.non | assumption | (apply h_imm 0; (case h => assumption); (case e => with_unfolding_all rfl)) | (apply h_imm 1; (case h => assumption); (case e => with_unfolding_all rfl)) | (apply h_imm 2; (case h => assumption); (case e => with_unfolding_all rfl)) | (apply h_imm 3; (case h => assumption); (case e => with_unfolding_all rfl)) | (apply h_imm 4; (case h => assumption); (case e => with_unfolding_all rfl)) | (apply h_imm 5; (case h => assumption); (case e => with_unfolding_all rfl)))); (case hs => (first | assumption | (apply Or.inl; assumption) | (apply Or.inr; simp))); (case z => (rw [sizeLine_eq]; ((try simp only [List.length_append, List.length_cons, List.length_nil, List.length_map, List.length_replicate, List.length_set, List.length_take, List.length_drop]) <;> omega))))
  | (apply h_appendD 2; (case h => assumption); (case e => with_unfolding_all rfl); (case hd => (first | apply Im.int | apply Im.str | apply Im.bl | apply Im.non | assumption | (apply h_imm 0; (case h => assumption); (case e => with_unfolding_all rfl)) | (apply h_imm 1; (case h => assumption); (case e => with_unfolding_all rfl)) | (apply h_imm 2; (case h => assumption); (case e => with_unfolding_all rfl)) | (apply h_imm 3; (case h => assumption); (case e => with_unfolding_all rfl)) | (apply h_imm 4; (case h => assumption); (case e => with_unfolding_all rfl)) | (apply h_imm 5; (case h => assumption); (case e => with_unfolding_all rfl)))); (case hs => (first | assumption | (apply Or.inl; assumption) | (apply Or.inr; simp))); (case z => (rw [sizeLine_eq]; ((try simp only [List.length_append, List.length_cons, List.length_nil, List.length_map, List.length_replicate, List.length_set, List.length_take, List.length_drop]) <;> omega))))
  | (apply h_appendD 3; (case h => assumption); (case e => with_unfolding_all rfl); (case hd => (first | apply Im.int | apply Im.str | apply Im.bl | apply Im.non | assumption | (apply h_imm 0; (case h => assumption); (case e => with_unfolding_all rfl)) | (apply h_imm 1; (case h => assumption); (case e => with_unfolding_all rfl)) | (apply h_imm 2; (case h => assumption); (case e => with_unfolding_all rfl)) | (apply h_imm 3; (case h => assumption); (case e => with_unfolding_all rfl)) | (apply h_imm 4; (case h => assumption); (case e => with_unfolding_all rfl)) | (apply h_imm 5; (case h => assumption); (case e => with_unfolding_all rfl)))); (case hs => (first | assumption | (apply Or.inl; assumption) | (apply Or.inr; simp))); (case z => (rw [sizeLine_eq]; ((try simp only [List.length_append, List.length_cons, List.length_nil, List.length_map, List.length_replicate, List.length_set, List.length_take, List.length_drop]) <;> omega))))
  | (apply h_appendD 4; (case h => assumption); (case e => with_unfolding_all rfl); (case hd => (first | apply Im.int | apply Im.str | apply Im.bl | apply Im.non | assumption | (apply h_imm 0; (case h => assumption); (case e => with_unfolding_all rfl)) | (apply h_imm 1; (case h => assumption); (case e => with_unfolding_all rfl)) | (apply h_imm 2; (case h => assumption); (case e => with_unfolding_all rfl)) | (apply h_imm 3; (case h => assumption); (case e => with_unfolding_all rfl)) | (apply h_imm 4; (case h => assumption); (case e => with_unfolding_all rfl)) | (apply h_imm 5; (case h => assumption); (case e => with_unfolding_all rfl)))); (case hs => (first | assumption | (apply Or.inl; assumption) | (apply Or.inr; simp))); (case z => (rw [sizeLine_eq]; ((try simp only [List.length_append, List.length_cons, List.length_nil, List.length_map, List.length_replicate, List.length_set, List.length_take, List.length_drop]) <;> omega))))
  | (apply h_tyL 0; (case h => assumption); (case e => with_unfolding_all rfl))
  | (apply h_tyL 1; (case h => assumption); (case e => with_unfolding_all rfl))
  | (apply h_tyL 2; (case h => assumption); (case e => with_unfolding_all rfl))
  | (apply h_tyL 3; (case h => assumption); (case e => with_unfolding_all rfl))
  | (apply h_tyL 4; (case h => assumption); (case e => with_unfolding_all rfl))
  | (apply h_tyD 0; (case h => assumption); (case e => with_unfolding_all rfl))
  | (apply h_tyD 1; (case h => assumption); (case e => with_unfolding_all rfl))
  | (apply h_tyD 2; (case h => assumption); (case e => with_unfolding_all rfl))
  | (apply h_tyD 3; (case h => assumption); (case e => with_unfolding_all rfl))
  | (apply h_tyD 4; (case h => assumption); (case e => with_unfolding_all rfl))
  | (apply h_tyS)
  | (apply h_lenL 0; (case h => assumption); (case e => with_unfolding_all rfl))
  | (apply h_lenL 1; (case h => assumption); (case e => with_unfolding_all rfl))
  | (apply h_lenL 2; (case h => assumption); (case e => with_unfolding_all rfl))
  | (apply h_lenL 3; (case h => assumption); (case e => with_unfolding_all rfl))
  | (apply h_lenL 4; (case h => assumption); (case e => with_unfolding_all rfl))
  | (apply h_lenD 0; (case h => assumption); (case e => with_unfolding_all rfl))
  | (apply h_lenD 1; (case h => assumption); (case e => with_unfolding_all rfl))
  | (apply h_lenD 2; (case h => assumption); (case e => with_unfolding_all rfl))
  | (apply h_lenD 3; (case h => assumption); (case e => with_unfolding_all rfl))
  | (apply h_lenD 4; (case h => assumption); (case e => with_unfolding_all rfl))
  | (apply h_setL 0; (case h => assumption); (case e => with_unfolding_all rfl); (case hs => (first | assumption | (apply Or.inl; assumption) | (apply Or.inr; simp))); (case hi => with_unfolding_all rfl))
  | (apply h_setL 1; (case h => assumption); (case e => with_unfolding_all rfl); (case hs => (first | assumption | (apply Or.inl; assumption) | (apply Or.inr; simp))); (case hi => with_unfolding_all rfl))
  | (apply h_setL 2; (case h => assumption); (case e => with_unfolding_all rfl); (case hs => (first | assumption | (apply Or.inl; assumption) | (apply Or.inr; simp))); (case hi => with_unfolding_all rfl))
  | (apply h_setL 3; (case h => assumption); (case e => with_unfolding_all rfl); (case hs => (first | assumption | (apply Or.inl; assumption) | (apply Or.inr; simp))); (case hi => with_unfolding_all rfl))
  | (apply h_setL 4; (case h => assumption); (case e => with_unfolding_all rfl); (case hs => (first | assumption | (apply Or.inl; assumption) | (apply Or.inr; simp))); (case hi => with_unfolding_all rfl))
  | (apply h_isLn 0; (case h => assumption); (case e => with_unfolding_all rfl))
  | (apply h_isLn 1; (case h => assumption); (case e => with_unfolding_all rfl))
  | (apply h_isLn 2; (case h => assumption); (case e => with_unfolding_all rfl))
  | (apply h_isLn 3; (case h => assumption); (case e => with_unfolding_all rfl))
  | (apply h_isLn 4; (case h => assumption); (case e => with_unfolding_all rfl))
  | (apply h_isLd 0; (case h => assumption); (case e => with_unfolding_all rfl))
  | (apply h_isLd 1; (case h => assumption); (case e => with_unfolding_all rfl))
  | (apply h_isLd 2; (case h => assumption); (case e => with_unfolding_all rfl))
  | (apply h_isLd 3; (case h => assumption); (case e => with_unfolding_all rfl))
  | (apply h_isLd 4; (case h => assumption); (case e => with_unfolding_all rfl))
  | (apply h_isT; (case h => (first | apply Im.int | apply Im.str | apply Im.bl | apply Im.non | assumption | (apply h_imm 0; (case h => assumption); (case e => with_unfolding_all rfl)) | (apply h_imm 1; (case h => assumption); (case e => with_unfolding_all rfl)) | (apply h_imm 2; (case h => assumption); (case e => with_unfolding_all rfl)) | (apply h_imm 3; (case h => assumption); (case e => with_unfolding_all rfl)) | (apply h_imm 4; (case h => assumption); (case e => with_unfolding_all rfl)) | (apply h_imm 5; (case h => assumption); (case e => with_unfolding_all rfl)))))
  | (apply h_tupOf 0; (case h => assumption); (case e => with_unfolding_all rfl))
  | (apply h_tupOf 1; (case h => assumption); (case e => with_unfolding_all rfl))
  | (apply h_tupOf 2; (case h => assumption); (case e => with_unfolding_all rfl))
  | (apply h_tupOf 3; (case h => assumption); (case e => with_unfolding_all rfl))
  | (apply h_tupOf 4; (case h => assumption); (case e => with_unfolding_all rfl))
  | (apply h_listOf 0; (case h => assumption); (case e => with_unfolding_all rfl))
  | (apply h_listOf 1; (case h => assumption); (case e => with_unfolding_all rfl))
  | (apply h_listOf 2; (case h => assumption); (case e => with_unfolding_all rfl))
  | (apply h_listOf 3; (case h => assumption); (case e => with_unfolding_all rfl))
  | (apply h_listOf 4; (case h => assumption); (case e => with_unfolding_all rfl))
  | (apply h_lst; (case h => assumption); (case z => (rw [sizeLine_eq]; ((try simp only [List.length_append, List.length_cons, List.length_nil, List.length_map, List.length_replicate, List.length_set, List.length_take, List.length_drop]) <;> omega))))
  | (apply h_tup; (case h => assumption); (case z => (rw [sizeLine_eq]; ((try simp only [List.length_append, List.length_cons, List.length_nil, List.length_map, List.length_replicate, List.length_set, List.length_take, List.length_drop]) <;> omega))); (case hd => repeat (first | apply Ims.nil | (apply Ims.cons; (focus (first | apply Im.int | apply Im.str | apply Im.bl | apply Im.non | assumption | (apply h_imm 0; (case h => assumption); (case e => with_unfolding_all rfl)) | (apply h_imm 1; (case h => assumption); (case e => with_unfolding_all rfl)) | (apply h_imm 2; (case h => assumption); (case e => with_unfolding_all rfl)) | (apply h_imm 3; (case h => assumption); (case e => with_unfolding_all rfl)) | (apply h_imm 4; (case h => assumption); (case e => with_unfolding_all rfl)) | (apply h_imm 5; (case h => assumption); (case e => with_unfolding_all rfl))))))))
  | (apply And.intro; (case left => (first | decide | omega)))
  | (apply h_mr; (case h1 => (first | decide | omega)); (case h2 => (first | decide | omega)))
  | (apply h_ml; (case h1 => (first | decide | omega)); (case h2 => (first | decide | omega)))
  | (apply h_dv; (case h1 => (first | decide | omega)); (case h2 => (first | decide | omega)))
  | (apply h_pw; (case h1 => (first | decide | omega)); (case h2 => (first | decide | omega)); (case h3 => decide))
  | (apply And.intro; (case left => (rw [sizeLine_eq]; ((try simp only [List.length_append, List.length_cons, List.length_nil, List.length_map, List.length_replicate, List.length_set, List.length_take, List.length_drop]) <;> omega))))) | with_reducible intro))

def t__law_cell (K : PySem.W.Frag) (A : Ad) : TS :=
  (tSeq (mIf (mTest (tOp mLt (mV 1) (tCB (hLen K) (tCons (mV 0) tNil))))
    (tRet (tOp (rIx K) (mV 0) (mV 1)))
    tNext)
  (tRet (tC (.int 0))))
theorem rd__law_cell {K : PySem.W.Frag} {A : Ad} {vs : List V} {H : Hp} {Q : VK} {E : XK} (h : sp__law_cell K A vs H Q E) : t__law_cell K A { nx := fun _ H' => Q .non H', rt := Q } (start ["_law_script", "_law_k"] vs) H := by
  obtain ⟨a, ns, i, rfl, hS, hi, k⟩ := h
  show t__law_cell K A _ [some (.ref a), some (.int i)] H
  unfold t__law_cell
  walk_at "gs"
  refine h_lenQ hS ?_
  walk_at "gs"
  rw [List.length_map]
  refine h_br (fun hc => ?_) (fun hc => ?_)
  · walk_at "gs"
    exact h_ixQ hS (at_ints hi hc) (k _ _ (Same.refl H))
  · walk_at "gs"
    exact k _ _ (Same.refl H)
def t__law_draw (K : PySem.W.Frag) (A : Ad) : TS :=
  (tSeq (tAsg (tOp (rIx K) (mV 0) (tC (.int 1))) (gName 2))
  (tSeq (tAsg (tOp (mAdd K) (mV 2) (tC (.int 1))) (gSub (mV 0) (tC (.int 1)) rSetL))
  (tSeq (mIf (mTest (tOp mLt (mV 2) (tCB (hLen K) (tCons (tOp (rIx K) (mV 0) (tC (.int 0))) tNil))))
    (tRet (tOp mMod (tCB mInt (tCons (tOp (rIx K) (tOp (rIx K) (mV 0) (tC (.int 0))) (mV 2)) tNil)) (mV 1)))
    tNext)
  (tRet (tOp mMod (tCB mInt (tCons (tOp (mAdd K) (tOp mMul (mV 2) (tC (.int 7))) (tC (.int 3))) tNil)) (mV 1))))))
theorem rd__law_draw {K : PySem.W.Frag} {A : Ad} {vs : List V} {H : Hp} {Q : VK} {E : XK} (h : sp__law_draw K A vs H Q E) : t__law_draw K A { nx := fun _ H' => Q .non H', rt := Q } (start ["_law_box", "_law_many", "_law_at"] vs) H := by
  obtain ⟨b, g, ds, i, m, rfl, hb, hg, hbg, hi, hi2, hm, k⟩ := h
  show t__law_draw K A _ [some (.ref b), some (.int m), none] H
  unfold t__law_draw
  have hL : Led K H [b] H [(b, .raw (.lst [.ref g, .int i])), (g, .raw (.lst (ds.map V.int)))] [] := Led.mk2 hb hg hbg
  walk_at "gs"
  rename_i H1 h1
  rw [List.length_map]
  have fin : ∀ z, Q (.int (z % m)) H1 := fun z => k _ H1 (Int.emod_nonneg _ (by omega)) (Int.emod_lt_of_pos _ hm) h1.kp (h1.raw 0 rfl)
  refine h_br (fun hc => ?_) (fun hc => ?_)
  · walk_at "gs"
    refine h_ixL (n := 1) h1 rfl (at_ints hi hc) ?_
    walk_at "gs"
    exact fin _
  · walk_at "gs"
    exact fin _
def t__law_digits (K : PySem.W.Frag) (A : Ad) : TS :=
  (tSeq (tAsg (tLst tNil) (gName 3))
  (tSeq (tFor (jR2 (tCons (mV 1) (tCons (mV 2) tNil))) (gName 4)
    (tSeq (tAsg (tCall (sp__law_cell K A) [] E0 (tCons (mV 0) (tCons (mV 4) tNil))) (gName 5))
  (mCut (mIf (mTest (tOp mLt (mV 5) (tC (.int 0))))
    (tAsg (tOp mSub (tC (.int 1)) (tOp mMul (tC (.int 2)) (mV 5))) (gName 5))
    tNext)
  (mIf (mTest (tOp mGe (mV 5) (tOp mPow (tC (.int 10)) (tC (.int 18)))))
    (tFor (jR1 (tCons (tC (.int 60)) tNil)) (gName 6)
    (mIf (mTest (tOp mGt (mV 5) (tC (.int 0))))
    (tSeq (tDrop (tBM K "list" rAppend (mV 3) (tCons (tOp mMod (tCB mInt (tCons (mV 5) tNil)) (tC (.int 1000))) tNil)))
  (tAsg (tOp mFdiv (mV 5) (tC (.int 1000))) (gName 5)))
    tNext))
    (tSeq (tAsg (tOp mMod (tCB mInt (tCons (tOp (mAdd K) (tOp (mAdd K) (tOp mMul (mV 5) (tC (.int 48271))) (tOp mMul (mV 4) (tC (.int 69621)))) (tC (.int 11))) tNil)) (tC (.int 2147483647))) (gName 7))
  (tFor (jR1 (tCons (tC (.int 12)) tNil)) (gName 6)
    (tSeq (tAsg (tOp mMod (tCB mInt (tCons (tOp (mAdd K) (tOp (mAdd K) (tOp mMul (mV 7) (tC (.int 16807))) (tOp mMul (tC (.int 7)) (mV 6))) (tC (.int 1))) tNil)) (tC (.int 2147483647))) (gName 7))
  (tDrop (tBM K "list" rAppend (mV 3) (tCons (tOp mMod (tCB mInt (tCons (tOp mFdiv (mV 7) (tC (.int 997))) tNil)) (tC (.int 1000))) tNil))))))))))
  (tRet (mV 3))))
theorem rd__law_digits {K : PySem.W.Frag} {A : Ad} {vs : List V} {H : Hp} {Q : VK} {E : XK} (h : sp__law_digits K A vs H Q E) :
    t__law_digits K A { nx := fun _ H' => Q .non H', rt := Q } (start ["_law_script", "_law_first", "_law_last", "_law_digits_here", "_law_k", "_law_cell_here", "_law_turn", "_law_seed"] vs) H := by
  obtain ⟨a, ns, f, l, rfl, hS, hf, hf2, hl, hl2, k⟩ := h
  show t__law_digits K A _ [some (.ref a), some (.int f), some (.int l), none, none, none, none, none] H
  unfold t__law_digits
  have hL : Led K H [] H [] [] := Led.start
  walk_at "gs"
  rename_i p H1 np h1
  have np : H p = none := np.elim id fun z => nomatch z
  refine lpR (fun i σ H2 => ∃ (ds : List Int) (y4 y5 y6 y7 : Option V), σ = [some (.ref a), some (.int f), some (.int l), some (.ref p), y4, y5, y6, y7] ∧ ds.length ≤ 60 * i ∧ Led K H [] H2 [(p, .raw (.lst (ds.map V.int)))] [])
    ⟨[], none, none, none, none, rfl, Nat.le_refl _, h1⟩ ?_ ?_
  · rintro i σ H2 hi ⟨ds, y4, y5, y6, y7, rfl, hz, h2⟩
    walk_at "gs"
    refine ⟨a, ns, f + i, rfl, Same.seq (KBs.same h2.kp) hS, by omega, fun z H3 s3 => ?_⟩
    have h3 := h2.same s3
    walk_at "gs"
    refine h_cut (fun σ H4 => ∃ z : Int, σ = [some (.ref a), some (.int f), some (.int l), some (.ref p), some (.int (f + i)), some (.int z), y6, y7] ∧ Led K H [] H4 [(p, .raw (.lst (ds.map V.int)))] []) ?_ ?_
    · walk_at "gs"
      refine h_br (fun hc => ?_) (fun hc => ?_)
      · walk_at "gs"
        exact ⟨_, rfl, h3⟩
      · walk_at "gs"
        exact ⟨_, rfl, h3⟩
    · rintro σ H4 ⟨z, rfl, h4⟩
      walk_at "gs"
      refine h_br (fun hc => ?_) (fun hc => ?_)
      · walk_at "gs"
        refine lpR (fun j σ H5 => ∃ (ds : List Int) (z : Int) (y6 : Option V), σ = [some (.ref a), some (.int f), some (.int l), some (.ref p), some (.int (f + i)), some (.int z), y6, y7] ∧ ds.length ≤ 60 * i + j ∧ Led K H [] H5 [(p, .raw (.lst (ds.map V.int)))] [])
          ⟨ds, z, y6, rfl, hz, h4⟩ ?_ ?_
        · rintro j σ H5 hj ⟨ds, z, y6, rfl, hz, h5⟩
          walk_at "gs"
          refine h_br (fun hc => ?_) (fun hc => ?_)
          · walk_at "gs"
            rename_i H6 h6
            rw [map_snoc] at h6
            exact ⟨_, _, _, rfl, by rw [List.length_append]; show ds.length + 1 ≤ _; omega, h6⟩
          · walk_at "gs"
            exact ⟨ds, z, _, rfl, by omega, h5⟩
        · rintro σ H5 ⟨ds, z, y6, rfl, hz, h5⟩
          walk_at "gs"
          exact ⟨ds, _, _, _, _, rfl, by simp at hz; omega, h5⟩
      · walk_at "gs"
        refine lpR (fun j σ H5 => ∃ (ds : List Int) (w : Int) (y6 : Option V), σ = [some (.ref a), some (.int f), some (.int l), some (.ref p), some (.int (f + i)), some (.int z), y6, some (.int w)] ∧ (0 ≤ w ∧ w < 2147483647) ∧ ds.length ≤ 60 * i + j ∧ Led K H [] H5 [(p, .raw (.lst (ds.map V.int)))] [])
          ⟨ds, _, y6, rfl, ⟨Int.emod_nonneg _ (by decide), Int.emod_lt_of_pos _ (by decide)⟩, hz, h4⟩ ?_ ?_
        · rintro j σ H5 hj ⟨ds, w, y6, rfl, ⟨hw, hw2⟩, hz, h5⟩
          walk_at "gs"
          rename_i H6 h6
          rw [map_snoc] at h6
          exact ⟨_, _, _, rfl, ⟨Int.emod_nonneg _ (by decide), Int.emod_lt_of_pos _ (by decide)⟩, by rw [List.length_append]; show ds.length + 1 ≤ _; omega, h6⟩
        · rintro σ H5 ⟨ds, w, y6, rfl, hw, hz, h5⟩
          walk_at "gs"
          exact ⟨ds, _, _, _, _, rfl, by simp at hz; omega, h5⟩
  · rintro σ H2 ⟨ds, y4, y5, y6, y7, rfl, hz, h2⟩
    walk_at "gs"
    exact k p H2 ds (KBs.same h2.kp) np (h2.raw 0 rfl)

/-! ### digits to a base -/
def vn (b : Int) : List Int → Int
  | [] => 0
  | x :: r => x + b * vn b r
def dg (b : Int) : Nat → Int → List Int
  | 0, _ => []
  | n + 1, z => z % b :: dg b n (z / b)
theorem dg_len (b : Int) : ∀ (n : Nat) (z : Int), (dg b n z).length = n
  | 0, _ => rfl
  | n + 1, z => by rw [dg, List.length_cons, dg_len b n]
theorem dg_app {b : Int} (hb : 0 < b) : ∀ (n m : Nat) (z : Int), dg b (n + m) z = dg b n z ++ dg b m (z / b ^ n)
  | 0, m, z => by rw [Nat.zero_add, Int.pow_zero, Int.ediv_one]; rfl
  | n + 1, m, z => by
    rw [show n + 1 + m = (n + m) + 1 by omega, dg, dg_app hb n m, dg, Int.ediv_ediv_of_nonneg (by omega), Int.pow_succ, Int.mul_comm]
    rfl
theorem dg_snoc {b : Int} (hb : 0 < b) (n : Nat) (z : Int) : dg b (n + 1) z = dg b n z ++ [z / b ^ n % b] := dg_app hb n 1 z
theorem dg_mod {b : Int} (hb : 0 < b) : ∀ (n : Nat) (z : Int), dg b n (z % b ^ n) = dg b n z
  | 0, _ => rfl
  | n + 1, z => by
    have hp : 0 < b ^ n := Int.pow_pos hb
    have e : b ^ (n + 1) = b * b ^ n := by rw [Int.pow_succ, Int.mul_comm]
    rw [dg, dg, e]
    have h1 : z % (b * b ^ n) % b = z % b := Int.emod_emod_of_dvd z (Int.dvd_mul_right b (b ^ n))
    have h2 : z % (b * b ^ n) / b = z / b % b ^ n := by
      rw [Int.emod_def z (b * b ^ n), Int.emod_def (z / b) (b ^ n), Int.ediv_ediv_of_nonneg (by omega), Int.mul_assoc, Int.sub_eq_add_neg, Int.neg_mul_eq_mul_neg, Int.add_mul_ediv_left _ _ (by omega), Int.sub_eq_add_neg]
    rw [h1, h2, dg_mod hb n]
theorem dg_take {b : Int} (hb : 0 < b) (n k : Nat) (h : k ≤ n) (z : Int) : (dg b n z).take k = dg b k z := by
  obtain ⟨m, rfl⟩ := Nat.exists_eq_add_of_le h
  rw [dg_app hb, List.take_left' (dg_len b k z)]
theorem dg_drop {b : Int} (hb : 0 < b) (n k : Nat) (h : k ≤ n) (z : Int) : (dg b n z).drop k = dg b (n - k) (z / b ^ k) := by
  obtain ⟨m, rfl⟩ := Nat.exists_eq_add_of_le h
  rw [dg_app hb, List.drop_left' (dg_len b k z), Nat.add_sub_cancel_left]
theorem dg_rng {b : Int} (hb : 0 < b) : ∀ (n : Nat) (z x : Int), x ∈ dg b n z → 0 ≤ x ∧ x < b
  | 0, _, _, h => nomatch h
  | n + 1, z, x, h => by
    rcases List.mem_cons.mp h with h | h
    · rw [h]
      exact ⟨Int.emod_nonneg _ (by omega), Int.emod_lt_of_pos _ hb⟩
    · exact dg_rng hb n _ x h
theorem vn_app (b : Int) : ∀ l r : List Int, vn b (l ++ r) = vn b l + b ^ l.length * vn b r
  | [], r => by simp [vn]
  | x :: l, r => by
    rw [List.cons_append, vn, vn, vn_app b l r, List.length_cons, Int.pow_succ, Int.mul_add, Int.add_assoc, Int.mul_comm (b ^ l.length) b, Int.mul_assoc]
theorem vn_dg {b : Int} (hb : 0 < b) : ∀ (n : Nat) (z : Int), vn b (dg b n z) = z % b ^ n
  | 0, z => by rw [Int.pow_zero, Int.emod_one]; rfl
  | n + 1, z => by
    have hp : 0 < b ^ n := Int.pow_pos hb
    have e : b ^ (n + 1) = b * b ^ n := by rw [Int.pow_succ, Int.mul_comm]
    rw [dg, vn, vn_dg hb n, e]
    have h2 : z % (b * b ^ n) / b = z / b % b ^ n := by
      rw [Int.emod_def z (b * b ^ n), Int.emod_def (z / b) (b ^ n), Int.ediv_ediv_of_nonneg (by omega), Int.mul_assoc, Int.sub_eq_add_neg, Int.neg_mul_eq_mul_neg, Int.add_mul_ediv_left _ _ (by omega), Int.sub_eq_add_neg]
    have h1 : z % (b * b ^ n) % b = z % b := Int.emod_emod_of_dvd z (Int.dvd_mul_right b (b ^ n))
    have h3 := Int.emod_add_mul_ediv (z % (b * b ^ n)) b
    rw [h1, h2] at h3
    exact h3
theorem vn_rng {b : Int} (hb : 0 < b) : ∀ l : List Int, (∀ x ∈ l, 0 ≤ x ∧ x < b) → 0 ≤ vn b l ∧ vn b l < b ^ l.length
  | [], _ => ⟨Int.le_refl _, by rw [List.length_nil, Int.pow_zero]; exact (by decide : (0 : Int) < 1)⟩
  | x :: l, h => by
    obtain ⟨h1, h2⟩ := h x List.mem_cons_self
    obtain ⟨h3, h4⟩ := vn_rng hb l fun y hy => h y (List.mem_cons_of_mem _ hy)
    rw [vn, List.length_cons, Int.pow_succ]
    have h5 : 0 ≤ b * vn b l := Int.mul_nonneg (by omega) h3
    have h6 : b * vn b l ≤ b * (b ^ l.length - 1) := Int.mul_le_mul_of_nonneg_left (by omega) (by omega)
    rw [Int.mul_sub, Int.mul_one] at h6
    rw [Int.mul_comm (b ^ l.length) b]
    omega
theorem dg_vn {b : Int} (hb : 0 < b) : ∀ l : List Int, (∀ x ∈ l, 0 ≤ x ∧ x < b) → dg b l.length (vn b l) = l
  | [], _ => rfl
  | x :: l, h => by
    obtain ⟨h1, h2⟩ := h x List.mem_cons_self
    rw [List.length_cons, dg, vn, Int.add_mul_emod_self_left, Int.emod_eq_of_lt h1 h2, Int.add_mul_ediv_left _ _ (by omega), Int.ediv_eq_zero_of_lt h1 h2, Int.zero_add, dg_vn hb l fun y hy => h y (List.mem_cons_of_mem _ hy)]
/-- bits of bytes -/
theorem dg_bytes : ∀ (n : Nat) (z : Int), (dg 256 n z).flatMap (dg 2 8) = dg 2 (8 * n) z
  | 0, _ => rfl
  | n + 1, z => by
    rw [dg, List.flatMap_cons, dg_bytes n, show 8 * (n + 1) = 8 + 8 * n by omega, dg_app (by decide) 8 (8 * n) z]
    have e : z % 256 = z % 2 ^ 8 := rfl
    rw [e, dg_mod (by decide)]
    rfl
theorem bits_vn {l : List Int} (h : ∀ x ∈ l, 0 ≤ x ∧ x < 256) : l.flatMap (dg 2 8) = dg 2 (8 * l.length) (vn 256 l) := by
  have e := dg_vn (b := 256) (by decide) l h
  have q := dg_bytes l.length (vn 256 l)
  rw [e] at q
  exact q
theorem dg_get {b : Int} (hb : 0 < b) (n k : Nat) (h : k < n) (z : Int) : (dg b n z).getD k 0 = z / b ^ k % b := by
  have e := dg_drop hb n k (by omega) z
  rw [List.getD_eq_getElem?_getD]
  have q : (dg b n z)[k]? = ((dg b n z).drop k)[0]? := by rw [List.getElem?_drop, Nat.add_zero]
  rw [q, e, show n - k = (n - k - 1) + 1 by omega, dg]
  rfl
theorem mod_snoc (m : Nat) (y : Int) : y % 2 ^ (m + 1) = y % 2 ^ m + 2 ^ m * (y / 2 ^ m % 2) := by
  have h := vn_dg (b := 2) (by decide) (m + 1) y
  rw [dg_snoc (by decide), vn_app, vn_dg (by decide), dg_len] at h
  rw [← h]
  simp [vn]
/-! ### words -/
def Byt (ds : List Int) : Prop := ∀ b ∈ ds, 0 ≤ b ∧ b < 256
def ord (big : Bool) (l : List Int) : List Int := if big = true then l.reverse else l
def seg (ds : List Int) (o n : Nat) : List Int := (ds.take (o + n)).drop o
def wnum (ds : List Int) (o n : Nat) (big : Bool) : Int := vn 256 (ord big (seg ds o n))
def putSeg (ds : List Int) (o : Nat) (s : List Int) : List Int := ds.take o ++ s ++ ds.drop (o + s.length)
def put (ds : List Int) (o n : Nat) (big : Bool) (z : Int) : List Int := putSeg ds o (ord big (dg 256 n z))
def lo (w : Nat) (s : Bool) : Int := if s = true then 0 - 2 ^ (w - 1) else 0
def hi (w : Nat) (s : Bool) : Int := if s = true then 2 ^ (w - 1) - 1 else 2 ^ w - 1
def sgn (w : Nat) (s : Bool) (z : Int) : Int := if s = true ∧ 2 ^ (w - 1) ≤ z then z - 2 ^ w else z
def rslot (ds : List Int) (o n : Nat) (big : Bool) (f w : Nat) (s : Bool) : Int := sgn w s (wnum ds o n big / 2 ^ f % 2 ^ w)
def nslot (N : Int) (f w : Nat) (v : Int) : Int := N + (v % 2 ^ w - N / 2 ^ f % 2 ^ w) * 2 ^ f
def wslot (ds : List Int) (o n : Nat) (big : Bool) (f w : Nat) (v : Int) : List Int := put ds o n big (nslot (wnum ds o n big) f w v)
theorem ord_len (big : Bool) (l : List Int) : (ord big l).length = l.length := by
  unfold ord
  split
  · exact List.length_reverse
  · rfl
theorem ord_ord (big : Bool) (l : List Int) : ord big (ord big l) = l := by
  cases big
  · rfl
  · exact List.reverse_reverse l
theorem ord_mem {big : Bool} {l : List Int} {x : Int} : x ∈ ord big l ↔ x ∈ l := by
  cases big
  · exact Iff.rfl
  · exact List.mem_reverse
theorem seg_len {ds : List Int} {o n : Nat} (h : o + n ≤ ds.length) : (seg ds o n).length = n := by
  unfold seg
  rw [List.length_drop, List.length_take]
  omega
theorem seg_byt {ds : List Int} {o n : Nat} (h : Byt ds) : Byt (seg ds o n) := fun b hb => h b (List.mem_of_mem_take (List.mem_of_mem_drop hb))
theorem seg_get {ds : List Int} {o n i : Nat} (h : i < n) : (seg ds o n).getD i 0 = ds.getD (o + i) 0 := by
  unfold seg
  rw [List.getD_eq_getElem?_getD, List.getElem?_drop, List.getElem?_take_of_lt (by omega), List.getD_eq_getElem?_getD]
theorem ord_get {big : Bool} {l : List Int} {i : Nat} (h : i < l.length) : (ord big l).getD i 0 = l.getD (if big = true then l.length - 1 - i else i) 0 := by
  cases big
  · rfl
  · simp only [ord, if_true, List.getD_eq_getElem?_getD]
    rw [List.getElem?_reverse h]
theorem putSeg_seg {ds : List Int} {o n : Nat} (h : o + n ≤ ds.length) : putSeg ds o (seg ds o n) = ds := by
  unfold putSeg
  rw [seg_len h]
  have e : ds.take o ++ seg ds o n = ds.take (o + n) := by
    have q := List.take_append_drop o (ds.take (o + n))
    rw [List.take_take, Nat.min_eq_left (by omega)] at q
    exact q
  rw [e, List.take_append_drop]
theorem putSeg_len {ds s : List Int} {o : Nat} (h : o + s.length ≤ ds.length) : (putSeg ds o s).length = ds.length := by
  unfold putSeg
  rw [List.length_append, List.length_append, List.length_take, List.length_drop]
  omega
theorem putSeg_set {ds s : List Int} {o i : Nat} {z : Int} (h : o + s.length ≤ ds.length) (hi : i < s.length) : (putSeg ds o s).set (o + i) z = putSeg ds o (s.set i z) := by
  unfold putSeg
  have e : (ds.take o).length = o := by rw [List.length_take]; omega
  rw [List.append_assoc, List.set_append_right (o + i) z (by omega), e, Nat.add_sub_cancel_left, List.set_append_left i z hi, List.length_set, List.append_assoc]
theorem putSeg_putSeg {ds s t : List Int} {o : Nat} (h : o + s.length ≤ ds.length) (hst : s.length = t.length) : putSeg (putSeg ds o s) o t = putSeg ds o t := by
  unfold putSeg
  have e : (ds.take o).length = o := by rw [List.length_take]; omega
  have e2 : (ds.take o ++ s).length = o + t.length := by rw [List.length_append, e, hst]
  rw [List.append_assoc (ds.take o) s, List.take_left' e, ← List.append_assoc (ds.take o) s, List.drop_left' e2, hst]
theorem seg_putSeg {ds s : List Int} {o : Nat} (h : o + s.length ≤ ds.length) : seg (putSeg ds o s) o s.length = s := by
  unfold seg putSeg
  have e : (ds.take o).length = o := by rw [List.length_take]; omega
  have e2 : (ds.take o ++ s).length = o + s.length := by rw [List.length_append, e]
  rw [List.take_left' e2, List.drop_left' e]
theorem ord_set {big : Bool} {l : List Int} {i : Nat} {z : Int} (h : i < l.length) : (ord big l).set (if big = true then l.length - 1 - i else i) z = ord big (l.set i z) := by
  cases big
  · rfl
  · simp only [ord, if_true]
    refine List.ext_getElem? fun j => ?_
    by_cases hj : j < l.length
    · rw [List.getElem?_set, List.getElem?_reverse hj, List.getElem?_reverse (by rw [List.length_set]; exact hj), List.length_set, List.getElem?_set, List.length_reverse]
      by_cases e : l.length - 1 - i = j
      · rw [if_pos e, if_pos (by omega), if_pos (by omega), if_pos (by omega)]
      · rw [if_neg e, if_neg (by omega)]
    · rw [List.getElem?_eq_none (by rw [List.length_set, List.length_reverse]; omega), List.getElem?_eq_none (by rw [List.length_reverse, List.length_set]; omega)]
theorem byt_putSeg {ds s : List Int} {o : Nat} (h : Byt ds) (hs : Byt s) : Byt (putSeg ds o s) := fun b hb => by
  rcases List.mem_append.mp hb with hb | hb
  · rcases List.mem_append.mp hb with hb | hb
    · exact h b (List.mem_of_mem_take hb)
    · exact hs b hb
  · exact h b (List.mem_of_mem_drop hb)
theorem byt_ord {big : Bool} {s : List Int} (h : Byt s) : Byt (ord big s) := fun b hb => h b (ord_mem.mp hb)
theorem byt_dg (n : Nat) (z : Int) : Byt (dg 256 n z) := fun b hb => dg_rng (by decide) n z b hb
theorem put_len {ds : List Int} {o n : Nat} {big : Bool} {z : Int} (h : o + n ≤ ds.length) : (put ds o n big z).length = ds.length := putSeg_len (by rw [ord_len, dg_len]; exact h)
theorem byt_put {ds : List Int} {o n : Nat} {big : Bool} {z : Int} (h : Byt ds) : Byt (put ds o n big z) := byt_putSeg h (byt_ord (byt_dg n z))
theorem wnum_rng {ds : List Int} {o n : Nat} {big : Bool} (h : Byt ds) (hn : o + n ≤ ds.length) : 0 ≤ wnum ds o n big ∧ wnum ds o n big < 256 ^ n := by
  have q := vn_rng (b := 256) (by decide) (ord big (seg ds o n)) (byt_ord (seg_byt h))
  rw [ord_len, seg_len hn] at q
  exact q
theorem wnum_put {ds : List Int} {o n : Nat} {big : Bool} {z : Int} (hn : o + n ≤ ds.length) : wnum (put ds o n big z) o n big = z % 256 ^ n := by
  have l : (ord big (dg 256 n z)).length = n := by rw [ord_len, dg_len]
  have q := seg_putSeg (ds := ds) (s := ord big (dg 256 n z)) (o := o) (by rw [l]; exact hn)
  rw [l] at q
  unfold wnum put
  rw [q, ord_ord, vn_dg (by decide)]
theorem put_wnum {ds : List Int} {o n : Nat} {big : Bool} (h : Byt ds) (hn : o + n ≤ ds.length) : put ds o n big (wnum ds o n big) = ds := by
  have q := dg_vn (b := 256) (by decide) (ord big (seg ds o n)) (byt_ord (seg_byt h))
  rw [ord_len, seg_len hn] at q
  unfold put wnum
  rw [q, ord_ord, putSeg_seg hn]
/-- the bits of a changed slot -/
theorem nslot_bits (N : Int) (f w n : Nat) (v : Int) (h : f + w ≤ n) : dg 2 n (nslot N f w v) = (dg 2 n N).take f ++ dg 2 w v ++ (dg 2 n N).drop (f + w) := by
  have hf : (0 : Int) < 2 ^ f := Int.pow_pos (by decide)
  have hw : (0 : Int) < 2 ^ w := Int.pow_pos (by decide)
  obtain ⟨r, rfl⟩ := Nat.exists_eq_add_of_le h
  have e1 : nslot N f w v / 2 ^ f = N / 2 ^ f + (v % 2 ^ w - N / 2 ^ f % 2 ^ w) := by
    unfold nslot
    rw [Int.add_mul_ediv_right _ _ (by omega)]
  have e2 : nslot N f w v % 2 ^ f = N % 2 ^ f := by
    unfold nslot
    rw [Int.add_mul_emod_self_right]
  have e3 : N / 2 ^ f + (v % 2 ^ w - N / 2 ^ f % 2 ^ w) = v % 2 ^ w + 2 ^ w * (N / 2 ^ f / 2 ^ w) := by
    have q := Int.emod_add_mul_ediv (N / 2 ^ f) (2 ^ w)
    omega
  rw [dg_take (by decide) _ _ (by omega), dg_drop (by decide) _ _ h, Nat.add_sub_cancel_left, Nat.add_assoc, dg_app (by decide) f, dg_app (by decide) w, ← dg_mod (by decide) f (nslot N f w v), e2, dg_mod (by decide), e1, e3, ← dg_mod (by decide) w (_ + _), Int.add_mul_emod_self_left, Int.emod_emod_of_dvd _ (Int.dvd_refl _), dg_mod (by decide),
    Int.add_mul_ediv_left _ _ (by omega), Int.ediv_eq_zero_of_lt (Int.emod_nonneg _ (by omega)) (Int.emod_lt_of_pos _ hw), Int.zero_add, Int.ediv_ediv_of_nonneg (by omega), Int.pow_add, List.append_assoc]
theorem lo_hi {w : Nat} {s : Bool} (h : 0 < w) : lo w s ≤ hi w s ∧ hi w s - lo w s + 1 = 2 ^ w := by
  obtain ⟨k, rfl⟩ := Nat.exists_eq_add_of_le' h
  have hp : (0 : Int) < 2 ^ k := Int.pow_pos (by decide)
  unfold lo hi
  rw [Nat.add_sub_cancel, Int.pow_succ]
  cases s
  · simp only [Bool.false_eq_true, if_false]
    omega
  · simp only [if_true]
    omega
theorem p2_le {a b : Nat} (h : a ≤ b) : (2 : Int) ^ a ≤ 2 ^ b := by
  have := Nat.pow_le_pow_right (n := 2) (by decide) h
  exact_mod_cast this
theorem p2_pos (a : Nat) : (0 : Int) < 2 ^ a := Int.pow_pos (by decide)
/-! ### the promises of integers -/
def sp_power (K : PySem.W.Frag) (A : Ad) : Sp := fun vs H Q _ => ∃ n : Int, vs = [.int n] ∧ 0 ≤ n ∧ n ≤ 1000 ∧ Q (.int (2 ^ n.toNat)) H
def sp_bounds (K : PySem.W.Frag) (A : Ad) : Sp := fun vs H Q _ => ∃ (w : Int) (s : Bool), vs = [.int w, .bl s] ∧ 1 ≤ w ∧ w ≤ 63 ∧ ∀ p H', Same H H' → Im K H' (.ref p) (.tuple [.int (lo w.toNat s), .int (hi w.toNat s)]) → Q (.ref p) H'
def sp_word_number (K : PySem.W.Frag) (A : Ad) : Sp := fun vs H Q _ => ∃ (a : Addr) (ds : List Int) (o n : Int) (big : Bool), vs = [.ref a, .int o, .int n, .bl big] ∧ SqL K H a (ds.map V.int) ∧ 0 ≤ o ∧ 0 ≤ n ∧ n ≤ 1000 ∧ o + n ≤ ds.length ∧ Q (.int (wnum ds o.toNat n.toNat big)) H
def sp_put_word_number (K : PySem.W.Frag) (A : Ad) : Sp := fun vs H Q _ => ∃ (a : Addr) (ds : List Int) (o n : Int) (big : Bool) (z : Int), vs = [.ref a, .int o, .int n, .bl big, .int z] ∧ H a = some (.lst (ds.map V.int)) ∧ 0 ≤ o ∧ 0 ≤ n ∧ n ≤ 1000 ∧ o + n ≤ ds.length ∧
  ∀ H', KBs H H' [a] → H' a = some (.lst ((put ds o.toNat n.toNat big z).map V.int)) → Q .non H'
def sp_read_slot (K : PySem.W.Frag) (A : Ad) : Sp := fun vs H Q _ => ∃ (a : Addr) (ds : List Int) (o n : Int) (big : Bool) (f w : Int) (s : Bool), vs = [.ref a, .int o, .int n, .bl big, .int f, .int w, .bl s] ∧ SqL K H a (ds.map V.int) ∧ 0 ≤ o ∧ 0 ≤ n ∧ n ≤ 1000 ∧ o + n ≤ ds.length ∧ 0 ≤ f ∧ f ≤ 63 ∧ 1 ≤ w ∧ w ≤ 63 ∧
  Q (.int (rslot ds o.toNat n.toNat big f.toNat w.toNat s)) H
def sp_write_slot (K : PySem.W.Frag) (A : Ad) : Sp := fun vs H Q E => ∃ (a : Addr) (ds : List Int) (o n : Int) (big : Bool) (f w : Int) (s : Bool) (v : Int), vs = [.ref a, .int o, .int n, .bl big, .int f, .int w, .bl s, .int v] ∧ H a = some (.lst (ds.map V.int)) ∧ 0 ≤ o ∧ 0 ≤ n ∧ n ≤ 1000 ∧ o + n ≤ ds.length ∧ 0 ≤ f ∧ f ≤ 63 ∧ 1 ≤ w ∧ w ≤ 63 ∧
  (v < lo w.toNat s ∨ hi w.toNat s < v → ∀ H', Same H H' → E (.ref A.c_OutOfRange) none H') ∧
  (lo w.toNat s ≤ v → v ≤ hi w.toNat s → ∀ H', KBs H H' [a] → H' a = some (.lst ((wslot ds o.toNat n.toNat big f.toNat w.toNat v).map V.int)) → Q .non H')
def sp_read_word (K : PySem.W.Frag) (A : Ad) : Sp := fun vs H Q _ => ∃ (a : Addr) (ds : List Int) (o n : Int), vs = [.ref a, .int o, .int n] ∧ SqL K H a (ds.map V.int) ∧ 0 ≤ o ∧ 0 ≤ n ∧ n ≤ 1000 ∧ o + n ≤ ds.length ∧ Q (.int (wnum ds o.toNat n.toNat false)) H
def sp_write_word (K : PySem.W.Frag) (A : Ad) : Sp := fun vs H Q _ => ∃ (a : Addr) (ds : List Int) (o n : Int) (z : Int), vs = [.ref a, .int o, .int n, .int z] ∧ H a = some (.lst (ds.map V.int)) ∧ 0 ≤ o ∧ 0 ≤ n ∧ n ≤ 1000 ∧ o + n ≤ ds.length ∧
  ∀ H', KBs H H' [a] → H' a = some (.lst ((put ds o.toNat n.toNat false z).map V.int)) → Q .non H'
section
variable {K : PySem.W.Frag} {A : Ad} {H0 H : Hp} {S : List Addr} {L : List (Addr × Ent)} {I : List (V × PyData)} {Q : VK} {E : XK} {a : Addr} {ds : List Int} {o n f w z v : Int} {big s : Bool}
theorem h_power {n : Int} (h0 : 0 ≤ n) (h1 : n ≤ 1000) (k : Q (.int (2 ^ n.toNat)) H) : sp_power K A [.int n] H Q E := ⟨n, rfl, h0, h1, k⟩
theorem h_bounds (h : Led K H0 S H L I) (h0 : 1 ≤ w) (h1 : w ≤ 63) (k : ∀ p H', Led K H0 S H' L ((.ref p, .tuple [.int (lo w.toNat s), .int (hi w.toNat s)]) :: I) → Q (.ref p) H') : sp_bounds K A [.int w, .bl s] H Q E :=
  ⟨w, s, rfl, h0, h1, fun p H' s i => k p H' ((h.same s).imNew i)⟩
theorem h_wnum (m : Nat) (h : Led K H0 S H L I) (e : L[m]? = some (a, .raw (.lst (ds.map V.int)))) (h0 : 0 ≤ o) (h1 : 0 ≤ n) (h2 : n ≤ 1000) (h3 : o + n ≤ ds.length) (k : Q (.int (wnum ds o.toNat n.toNat big)) H) : sp_word_number K A [.ref a, .int o, .int n, .bl big] H Q E :=
  ⟨a, ds, o, n, big, rfl, h.sqL m e, h0, h1, h2, h3, k⟩
theorem h_rdword (m : Nat) (h : Led K H0 S H L I) (e : L[m]? = some (a, .raw (.lst (ds.map V.int)))) (h0 : 0 ≤ o) (h1 : 0 ≤ n) (h2 : n ≤ 1000) (h3 : o + n ≤ ds.length) (k : Q (.int (wnum ds o.toNat n.toNat false)) H) : sp_read_word K A [.ref a, .int o, .int n] H Q E :=
  ⟨a, ds, o, n, rfl, h.sqL m e, h0, h1, h2, h3, k⟩
theorem h_rslot (m : Nat) (h : Led K H0 S H L I) (e : L[m]? = some (a, .raw (.lst (ds.map V.int)))) (h0 : 0 ≤ o) (h1 : 0 ≤ n) (h2 : n ≤ 1000) (h3 : o + n ≤ ds.length) (h4 : 0 ≤ f) (h5 : f ≤ 63) (h6 : 1 ≤ w) (h7 : w ≤ 63) (k : Q (.int (rslot ds o.toNat n.toNat big f.toNat w.toNat s)) H) : sp_read_slot K A [.ref a, .int o, .int n, .bl big, .int f, .int w, .bl s] H Q E :=
  ⟨a, ds, o, n, big, f, w, s, rfl, h.sqL m e, h0, h1, h2, h3, h4, h5, h6, h7, k⟩
theorem h_put (m : Nat) (h : Led K H0 S H L I) (e : L[m]? = some (a, .raw (.lst (ds.map V.int)))) (h0 : 0 ≤ o) (h1 : 0 ≤ n) (h2 : n ≤ 1000) (h3 : o + n ≤ ds.length) (hs : H0 a = none ∨ a ∈ S) (k : ∀ H', Led K H0 S H' (L.set m (a, .raw (.lst ((put ds o.toNat n.toNat big z).map V.int)))) I → Q .non H') : sp_put_word_number K A [.ref a, .int o, .int n, .bl big, .int z] H Q E :=
  ⟨a, ds, o, n, big, z, rfl, h.raw m e, h0, h1, h2, h3, fun H' kb he => k H' (h.wr m e kb (h.raw m e) rfl he hs)⟩
theorem h_wrword (m : Nat) (h : Led K H0 S H L I) (e : L[m]? = some (a, .raw (.lst (ds.map V.int)))) (h0 : 0 ≤ o) (h1 : 0 ≤ n) (h2 : n ≤ 1000) (h3 : o + n ≤ ds.length) (hs : H0 a = none ∨ a ∈ S) (k : ∀ H', Led K H0 S H' (L.set m (a, .raw (.lst ((put ds o.toNat n.toNat false z).map V.int)))) I → Q .non H') : sp_write_word K A [.ref a, .int o, .int n, .int z] H Q E :=
  ⟨a, ds, o, n, z, rfl, h.raw m e, h0, h1, h2, h3, fun H' kb he => k H' (h.wr m e kb (h.raw m e) rfl he hs)⟩
theorem h_wslot (m : Nat) (h : Led K H0 S H L I) (e : L[m]? = some (a, .raw (.lst (ds.map V.int)))) (h0 : 0 ≤ o) (h1 : 0 ≤ n) (h2 : n ≤ 1000) (h3 : o + n ≤ ds.length) (h4 : 0 ≤ f) (h5 : f ≤ 63) (h6 : 1 ≤ w) (h7 : w ≤ 63) (hs : H0 a = none ∨ a ∈ S)
    (kx : v < lo w.toNat s ∨ hi w.toNat s < v → ∀ H', Led K H0 S H' L I → E (.ref A.c_OutOfRange) none H')
    (k : lo w.toNat s ≤ v → v ≤ hi w.toNat s → ∀ H', Led K H0 S H' (L.set m (a, .raw (.lst ((wslot ds o.toNat n.toNat big f.toNat w.toNat v).map V.int)))) I → Q .non H') : sp_write_slot K A [.ref a, .int o, .int n, .bl big, .int f, .int w, .bl s, .int v] H Q E :=
  ⟨a, ds, o, n, big, f, w, s, v, rfl, h.raw m e, h0, h1, h2, h3, h4, h5, h6, h7, fun c H' sm => kx c H' (h.same sm), fun c1 c2 H' kb he => k c1 c2 H' (h.wr m e kb (h.raw m e) rfl he hs)⟩
end

local macro_rules | `(tactic| walk_at "im") => `(tactic| (first | apply Im.int | apply Im.str | apply Im.bl | apply Im.non | assumption | (apply h_imm 0; (case h => assumption); (case e => with_unfolding_all rfl)) | (apply h_imm 1; (case h => assumption); (case e => with_unfolding_all rfl)) | (apply h_imm 2; (case h => assumption); (case e => with_unfolding_all rfl)) | (apply h_imm 3; (case h => assumption); (case e => with_unfolding_all rfl)) | (apply h_imm 4; (case h => assumption); (case e => with_unfolding_all rfl)) | (apply h_imm 5; (case h => assumption); (case e => with_unfolding_all rfl))))
local macro_rules | `(tactic| walk_at "ims") => `(tactic| repeat (first | apply Ims.nil | (apply Ims.cons; (focus (first | apply Im.int | apply Im.str | apply Im.bl | apply Im.non | assumption | (apply h_imm 0; (case h => assumption); (case e => with_unfolding_all rfl)) | (apply h_imm 1; (case h => assumption); (case e => with_unfolding_all rfl)) | (apply h_imm 2; (case h => assumption); (case e => with_unfolding_all rfl)) | (apply h_imm 3; (case h => assumption); (case e => with_unfolding_all rfl)) | (apply h_imm 4; (case h => assumption); (case e => with_unfolding_all rfl)) | (apply h_imm 5; (case h => assumption); (case e => with_unfolding_all rfl)))))))
local macro_rules | `(tactic| walk_at "sz") => `(tactic| (rw [sizeLine_eq]; ((try simp only [List.length_append, List.length_cons, List.length_nil, List.length_map, List.length_replicate, List.length_set, List.length_take, List.length_drop]) <;> omega)))
local macro_rules | `(tactic| walk_at "fr") => `(tactic| (first | assumption | (apply Or.inl; assumption) | (apply Or.inr; simp)))
local macro_rules | `(tactic| walk_at "ds") => `(tactic| dsimp only [a_lk0, a_lk1, a_lkS, a_V, a_vl, a_c, a_op, a_un, a_test, a_toB, a_tr, a_trB, a_trI, a_trN, a_and, a_or, a_not, a_andV, a_orV, a_notV, a_ifE, a_nil, a_cons, a_lst, a_tup, a_call, a_CB, a_BM, a_BM0, a_sl, a_part, a_partI, a_noPart, a_seq, a_next, a_brk, a_cont, a_asg, a_name, a_drop, a_ret, a_retN, a_if, a_aug, a_for, a_lc, a_jR1, a_jR2, a_jL, a_jT, a_rg1, a_rg2, a_gsub, a_yes, a_addI, a_addS, a_addR, a_iaddI, a_iaddS, a_sub, a_mulI, a_mulR, a_fdiv, a_mod, a_pow, a_shl, a_shr, a_lt, a_le, a_gt, a_ge, a_neg, a_EqI, a_EqS, a_EqB, a_EqNN, a_EqIN, a_EqNI, a_EqSN, a_EqNS, a_EqRR, a_EqRN, a_EqNR, a_NeI, a_NeS, a_NeB, a_NeNN, a_NeIN, a_NeNI, a_NeSN, a_NeNS, a_NeRR, a_NeRN, a_NeNR, a_isNN, a_isNI, a_isNS, a_isNB, a_isNR, a_notNN, a_notNI, a_notNS, a_notNB, a_notNR, a_intI, a_intB, a_abs, a_gnil, a_gcons, a_callS, a_raise0, a_tryAs, a_tryOnly, a_rev, a_jR3, wipe, List.set, List.nil_append, List.cons_append])
local macro_rules | `(tactic| walk_at "gs") => `(tactic| repeat (first | dsimp only [a_lk0, a_lk1, a_lkS, a_V, a_vl, a_c, a_op, a_un, a_test, a_toB, a_tr, a_trB, a_trI, a_trN, a_and, a_or, a_not, a_andV, a_orV, a_notV, a_ifE, a_nil, a_cons, a_lst, a_tup, a_call, a_CB, a_BM, a_BM0, a_sl, a_part, a_partI, a_noPart, a_seq, a_next, a_brk, a_cont, a_asg, a_name, a_drop, a_ret, a_retN, a_if, a_aug, a_for, a_lc, a_jR1, a_jR2, a_jL, a_jT, a_rg1, a_rg2, a_gsub, a_yes, a_addI, a_addS, a_addR, a_iaddI, a_iaddS, a_sub, a_mulI, a_mulR, a_fdiv, a_mod, a_pow, a_shl, a_shr, a_lt, a_le, a_gt, a_ge, a_neg, a_EqI, a_EqS, a_EqB, a_EqNN, a_EqIN, a_EqNI, a_EqSN, a_EqNS, a_EqRR, a_EqRN, a_EqNR, a_NeI, a_NeS, a_NeB, a_NeNN, a_NeIN, a_NeNI, a_NeSN, a_NeNS, a_NeRR, a_NeRN, a_NeNR, a_isNN, a_isNI, a_isNS, a_isNB, a_isNR, a_notNN, a_notNI, a_notNS, a_notNB, a_notNR, a_intI, a_intB, a_abs, a_gnil, a_gcons, a_callS, a_raise0, a_tryAs, a_tryOnly, a_rev, a_jR3, wipe, List.set, List.nil_append, List.cons_append] | with_reducible (first
  | (apply h_draw 0; (case h => assumption); (case e => with_unfolding_all rfl); (case e2 => with_unfolding_all rfl); (case h0 => (first | decide | omega)); (case h1 => (first | decide | omega)); (case h2 => (first | decide | omega)); (case hs => (first | assumption | (apply Or.inl; assumption) | (apply Or.inr; simp))))
  | (apply h_draw 1; (case h => assumption); (case e => with_unfolding_all rfl); (case e2 => with_unfolding_all rfl); (case h0 => (first | decide | omega)); (case h1 => (first | decide | omega)); (case h2 => (first | decide | omega)); (case hs => (first | assumption | (apply Or.inl; assumption) | (apply Or.inr; simp))))
  | (apply h_draw 2; (case h => assumption); (case e => with_unfolding_all rfl); (case e2 => with_unfolding_all rfl); (case h0 => (first | decide | omega)); (case h1 => (first | decide | omega)); (case h2 => (first | decide | omega)); (case hs => (first | assumption | (apply Or.inl; assumption) | (apply Or.inr; simp))))
  | (apply h_draw 3; (case h => assumption); (case e => with_unfolding_all rfl); (case e2 => with_unfolding_all rfl); (case h0 => (first | decide | omega)); (case h1 => (first | decide | omega)); (case h2 => (first | decide | omega)); (case hs => (first | assumption | (apply Or.inl; assumption) | (apply Or.inr; simp))))
  | (apply h_ixL 0; (case h => assumption); (case e => with_unfolding_all rfl); (case hx => with_unfolding_all rfl))
  | (apply h_ixL 1; (case h => assumption); (case e => with_unfolding_all rfl); (case hx => with_unfolding_all rfl))
  | (apply h_ixL 2; (case h => assumption); (case e => with_unfolding_all rfl); (case hx => with_unfolding_all rfl))
  | (apply h_ixL 3; (case h => assumption); (case e => with_unfolding_all rfl); (case hx => with_unfolding_all rfl))
  | (apply h_ixL 4; (case h => assumption); (case e => with_unfolding_all rfl); (case hx => with_unfolding_all rfl))
  | (apply h_ixTv; (case hd => (first | apply Im.int | apply Im.str | apply Im.bl | apply Im.non | assumption | (apply h_imm 0; (case h => assumption); (case e => with_unfolding_all rfl)) | (apply h_imm 1; (case h => assumption); (case e => with_unfolding_all rfl)) | (apply h_imm 2; (case h => assumption); (case e => with_unfolding_all rfl)) | (apply h_imm 3; (case h => assumption); (case e => with_unfolding_all rfl)) | (apply h_imm 4; (case h => assumption); (case e => with_unfolding_all rfl)) | (apply h_imm 5; (case h => assumption); (case e => with_unfolding_all rfl)))); (case h0 => (first | decide | omega)); (case hx => with_unfolding_all rfl); (case hv => with_unfolding_all rfl))
  | (apply h_slPre; (case h => assumption); (case hd => (first | apply Im.int | apply Im.str | apply Im.bl | apply Im.non | assumption | (apply h_imm 0; (case h => assumption); (case e => with_unfolding_all rfl)) | (apply h_imm 1; (case h => assumption); (case e => with_unfolding_all rfl)) | (apply h_imm 2; (case h => assumption); (case e => with_unfolding_all rfl)) | (apply h_imm 3; (case h => assumption); (case e => with_unfolding_all rfl)) | (apply h_imm 4; (case h => assumption); (case e => with_unfolding_all rfl)) | (apply h_imm 5; (case h => assumption); (case e => with_unfolding_all rfl)))); (case h0 => (first | decide | omega)))
  | (apply h_gtupV; (case h => (first | apply Im.int | apply Im.str | apply Im.bl | apply Im.non | assumption | (apply h_imm 0; (case h => assumption); (case e => with_unfolding_all rfl)) | (apply h_imm 1; (case h => assumption); (case e => with_unfolding_all rfl)) | (apply h_imm 2; (case h => assumption); (case e => with_unfolding_all rfl)) | (apply h_imm 3; (case h => assumption); (case e => with_unfolding_all rfl)) | (apply h_imm 4; (case h => assumption); (case e => with_unfolding_all rfl)) | (apply h_imm 5; (case h => assumption); (case e => with_unfolding_all rfl)))); (case hn => with_unfolding_all rfl); (case hv => with_unfolding_all rfl))
  | (apply h_isiB)
  | (apply h_eqr)
  | (apply iteT)
  | (apply h_nT)
  | (apply h_nF)
  | (apply iteF)
  | (apply h_brT)
  | (apply h_brF)
  | (apply h_brET)
  | (apply h_brEF)
  | (apply h_brNT)
  | (apply h_brNF)
  | (apply h_append 0; (case h => assumption); (case e => with_unfolding_all rfl); (case hs => (first | assumption | (apply Or.inl; assumption) | (apply Or.inr; simp))); (case z => (rw [sizeLine_eq]; ((try simp only [List.length_append, List.length_cons, List.length_nil, List.length_map, List.length_replicate, List.length_set, List.length_take, List.length_drop]) <;> omega))))
  | (apply h_append 1; (case h => assumption); (case e => with_unfolding_all rfl); (case hs => (first | assumption | (apply Or.inl; assumption) | (apply Or.inr; simp))); (case z => (rw [sizeLine_eq]; ((try simp only [List.length_append, List.length_cons, List.length_nil, List.length_map, List.length_replicate, List.length_set, List.length_take, List.length_drop]) <;> omega))))
  | (apply h_append 2; (case h => assumption); (case e => with_unfolding_all rfl); (case hs => (first | assumption | (apply Or.inl; assumption) | (apply Or.inr; simp))); (case z => (rw [sizeLine_eq]; ((try simp only [List.length_append, List.length_cons, List.length_nil, List.length_map, List.length_replicate, List.length_set, List.length_take, List.length_drop]) <;> omega))))
  | (apply h_append 3; (case h => assumption); (case e => with_unfolding_all rfl); (case hs => (first | assumption | (apply Or.inl; assumption) | (apply Or.inr; simp))); (case z => (rw [sizeLine_eq]; ((try simp only [List.length_append, List.length_cons, List.length_nil, List.length_map, List.length_replicate, List.length_set, List.length_take, List.length_drop]) <;> omega))))
  | (apply h_append 4; (case h => assumption); (case e => with_unfolding_all rfl); (case hs => (first | assumption | (apply Or.inl; assumption) | (apply Or.inr; simp))); (case z => (rw [sizeLine_eq]; ((try simp only [List.length_append, List.length_cons, List.length_nil, List.length_map, List.length_replicate, List.length_set, List.length_take, List.length_drop]) <;> omega))))
  | (apply h_appendD 0; (case h => assumption); (case e => with_unfolding_all rfl); (case hd => (first | apply Im.int | apply Im.str | apply Im.bl | apply Im.non | assumption | (apply h_imm 0; (case h => assumption); (case e => with_unfolding_all rfl)) | (apply h_imm 1; (case h => assumption); (case e => with_unfolding_all rfl)) | (apply h_imm 2; (case h => assumption); (case e => with_unfolding_all rfl)) | (apply h_imm 3; (case h => assumption); (case e => with_unfolding_all rfl)) | (apply h_imm 4; (case h => assumption); (case e => with_unfolding_all rfl)) | (apply h_imm 5; (case h => assumption); (case e => with_unfolding_all rfl)))); (case hs => (first | assumption | (apply Or.inl; assumption) | (apply Or.inr; simp))); (case z => (rw [sizeLine_eq]; ((try simp only [List.length_append, List.length_cons, List.length_nil, List.length_map, List.length_replicate, List.length_set, List.length_take, List.length_drop]) <;> omega))))
  | (apply h_appendD 1; (case h => assumption); (case e => with_unfolding_all rfl); (case hd => (first | apply Im.int | apply Im.str | apply Im.bl | apply Im.non | assumption | (apply h_imm 0; (case h => assumption); (case e => with_unfolding_all rfl)) | (apply h_imm 1; (case h => assumption); (case e => with_unfolding_all rfl)) | (apply h_imm 2; (case h => assumption); (case e => with_unfolding_all rfl)) | (apply h_imm 3; (case h => assumption); (case e => with_unfolding_all rfl)) | (apply h_imm 4; (case h => assumption); (case e => with_unfolding_all rfl)) | (apply h_imm 5; (case h => assumption); (case e => with_unfolding_all rfl)))); (case hs => (first | assumption | (apply Or.inl; assumption) | (apply Or.inr; simp))); (case z => (rw [sizeLine_eq]; ((try simp only [List.length_append, List.length_cons, List.length_nil, List.length_map, List.length_replicate, List.length_set, List.length_take, List.length_drop]) <;> omega))))
  | (apply h_appendD 2; (case h => assumption); (case e => with_unfolding_all rfl); (case hd => (first | apply Im.int | apply Im.str | apply Im.bl | apply Im.non | assumption | (apply h_imm 0; (case h => assumption); (case e => with_unfolding_all rfl)) | (apply h_imm 1; (case h => assumption); (case e => with_unfolding_all rfl)) | (apply h_imm 2; (case h => assumption); (case e => with_unfolding_all rfl)) | (apply h_imm 3; (case h => assumption); (case e => with_unfolding_all rfl)) | (apply h_imm 4; (case h => assumption); (case e => with_unfolding_all rfl)) | (apply h_imm 5; (case h => assumption); (case e => with_unfolding_all rfl)))); (case hs => (first | assumption | (apply Or.inl; assumption) | (apply Or.inr; simp))); (case z => (rw [sizeLine_eq]; ((try simp only [List.length_append, List.length_cons, List.length_nil, List.length_map, List.length_replicate, List.length_set, List.length_take, List.length_drop]) <;> omega))))
  | (apply h_appendD 3; (case h => assumption); (case e => with_unfolding_all rfl); (case hd => (first | apply Im.int | apply Im.str | apply Im.bl | apply Im.non | assumption | (apply h_imm 0; (case h => assumption); (case e => with_unfolding_all rfl)) | (apply h_imm 1; (case h => assumption); (case e => with_unfolding_all rfl)) | (apply h_imm 2; (case h => assumption); (case e => with_unfolding_all rfl)) | (apply h_imm 3; (case h => assumption); (case e => with_unfolding_all rfl)) | (apply h_imm 4; (case h => assumption); (case e => with_unfolding_all rfl)) | (apply h_imm 5; (case h => assumption); (case e => with_unfolding_all rfl)))); (case hs => (first | assumption | (apply Or.inl; assumption) | (apply Or.inr; simp))); (case z => (rw [sizeLine_eq]; ((try simp only [List.length_append, List.length_cons, List.length_nil, List.length_map, List.length_replicate, List.length_set, List.length_take, List.length_drop]) <;> omega))))
  | (apply h_appendD 4; (case h => assumption); (case e => with_unfolding_all rfl); (case hd => (first | apply Im.int | apply Im.str | apply Im.bl | apply Im.non | assumption | (apply h_imm 0; (case h => assumption); (case e => with_unfolding_all rfl)) | (apply h_imm 1; (case h => assumption); (case e => with_unfolding_all rfl)) | (apply h_imm 2; (case h => assumption); (case e => with_unfolding_all rfl)) | (apply h_imm 3; (case h => assumption); (case e => with_unfolding_all rfl)) | (apply h_imm 4; (case h => assumption); (case e => with_unfolding_all rfl)) | (apply h_imm 5; (case h => assumption); (case e => with_unfolding_all rfl)))); (case hs => (first | assumption | (apply Or.inl; assumption) | (apply Or.inr; simp))); (case z => (rw [sizeLine_eq]; ((try simp only [List.length_append, List.length_cons, List.length_nil, List.length_map, List.length_replicate, List.length_set, List.length_take, List.length_drop]) <;> omega))))
  | (apply h_tyL 0; (case h => assumption); (case e => with_unfolding_all rfl))
  | (apply h_tyL 1; (case h => assumption); (case e => with_unfolding_all rfl))
  | (apply h_tyL 2; (case h => assumption); (case e => with_unfolding_all rfl))
  | (apply h_tyL 3; (case h => assumption); (case e => with_unfolding_all rfl))
  | (apply h_tyL 4; (case h => assumption); (case e => with_unfolding_all rfl))
  | (apply h_tyD 0; (case h => assumption); (case e => with_unfolding_all rfl))
  | (apply h_tyD 1; (case h => assumption); (case e => with_unfolding_all rfl))
  | (apply h_tyD 2; (case h => assumption); (case e => with_unfolding_all rfl))
  | (apply h_tyD 3; (case h => assumption); (case e => with_unfolding_all rfl))
  | (apply h_tyD 4; (case h => assumption); (case e => with_unfolding_all rfl))
  | (apply h_tyS)
  | (apply h_lenL 0; (case h => assumption); (case e => with_unfolding_all rfl))
  | (apply h_lenL 1; (case h => assumption); (case e => with_unfolding_all rfl))
  | (apply h_lenL 2; (case h => assumption); (case e => with_unfolding_all rfl))
  | (apply h_lenL 3; (case h => assumption); (case e => with_unfolding_all rfl))
  | (apply h_lenL 4; (case h => assumption); (case e => with_unfolding_all rfl))
  | (apply h_lenD 0; (case h => assumption); (case e => with_unfolding_all rfl))
  | (apply h_lenD 1; (case h => assumption); (case e => with_unfolding_all rfl))
  | (apply h_lenD 2; (case h => assumption); (case e => with_unfolding_all rfl))
  | (apply h_lenD 3; (case h => assumption); (case e => with_unfolding_all rfl))
  | (apply h_lenD 4; (case h => assumption); (case e => with_unfolding_all rfl))
  | (apply h_setL 0; (case h => assumption); (case e => with_unfolding_all rfl); (case hs => (first | assumption | (apply Or.inl; assumption) | (apply Or.inr; simp))); (case hi => with_unfolding_all rfl))
  | (apply h_setL 1; (case h => assumption); (case e => with_unfolding_all rfl); (case hs => (first | assumption | (apply Or.inl; assumption) | (apply Or.inr; simp))); (case hi => with_unfolding_all rfl))
  | (apply h_setL 2; (case h => assumption); (case e => with_unfolding_all rfl); (case hs => (first | assumption | (apply Or.inl; assumption) | (apply Or.inr; simp))); (case hi => with_unfolding_all rfl))
  | (apply h_setL 3; (case h => assumption); (case e => with_unfolding_all rfl); (case hs => (first | assumption | (apply Or.inl; assumption) | (apply Or.inr; simp))); (case hi => with_unfolding_all rfl))
  | (apply h_setL 4; (case h => assumption); (case e => with_unfolding_all rfl); (case hs => (first | assumption | (apply Or.inl; assumption) | (apply Or.inr; simp))); (case hi => with_unfolding_all rfl))
  | (apply h_isLn 0; (case h => assumption); (case e => with_unfolding_all rfl))
  | (apply h_isLn 1; (case h => assumption); (case e => with_unfolding_all rfl))
  | (apply h_isLn 2; (case h => assumption); (case e => with_unfolding_all rfl))
  | (apply h_isLn 3; (case h => assumption); (case e => with_unfolding_all rfl))
  | (apply h_isLn 4; (case h => assumption); (case e => with_unfolding_all rfl))
  | (apply h_isLd 0; (case h => assumption); (case e => with_unfolding_all rfl))
  | (apply h_isLd 1; (case h => assumption); (case e => with_unfolding_all rfl))
  | (apply h_isLd 2; (case h => assumption); (case e => with_unfolding_all rfl))
  | (apply h_isLd 3; (case h => assumption); (case e => with_unfolding_all rfl))
  | (apply h_isLd 4; (case h => assumption); (case e => with_unfolding_all rfl))
  | (apply h_isT; (case h => (first | apply Im.int | apply Im.str | apply Im.bl | apply Im.non | assumption | (apply h_imm 0; (case h => assumption); (case e => with_unfolding_all rfl)) | (apply h_imm 1; (case h => assumption); (case e => with_unfolding_all rfl)) | (apply h_imm 2; (case h => assumption); (case e => with_unfolding_all rfl)) | (apply h_imm 3; (case h => assumption); (case e => with_unfolding_all rfl)) | (apply h_imm 4; (case h => assumption); (case e => with_unfolding_all rfl)) | (apply h_imm 5; (case h => assumption); (case e => with_unfolding_all rfl)))))
  | (apply h_tupOf 0; (case h => assumption); (case e => with_unfolding_all rfl))
  | (apply h_tupOf 1; (case h => assumption); (case e => with_unfolding_all rfl))
  | (apply h_tupOf 2; (case h => assumption); (case e => with_unfolding_all rfl))
  | (apply h_tupOf 3; (case h => assumption); (case e => with_unfolding_all rfl))
  | (apply h_tupOf 4; (case h => assumption); (case e => with_unfolding_all rfl))
  | (apply h_listOf 0; (case h => assumption); (case e => with_unfolding_all rfl))
  | (apply h_listOf 1; (case h => assumption); (case e => with_unfolding_all rfl))
  | (apply h_listOf 2; (case h => assumption); (case e => with_unfolding_all rfl))
  | (apply h_listOf 3; (case h => assumption); (case e => with_unfolding_all rfl))
  | (apply h_listOf 4; (case h => assumption); (case e => with_unfolding_all rfl))
  | (apply h_lst; (case h => assumption); (case z => (rw [sizeLine_eq]; ((try simp only [List.length_append, List.length_cons, List.length_nil, List.length_map, List.length_replicate, List.length_set, List.length_take, List.length_drop]) <;> omega))))
  | (apply h_tup; (case h => assumption); (case z => (rw [sizeLine_eq]; ((try simp only [List.length_append, List.length_cons, List.length_nil, List.length_map, List.length_replicate, List.length_set, List.length_take, List.length_drop]) <;> omega))); (case hd => repeat (first | apply Ims.nil | (apply Ims.cons; (focus (first | apply Im.int | apply Im.str | apply Im.bl | apply Im.non | assumption | (apply h_imm 0; (case h => assumption); (case e => with_unfolding_all rfl)) | (apply h_imm 1; (case h => assumption); (case e => with_unfolding_all rfl)) | (apply h_imm 2; (case h => assumption); (case e => with_unfolding_all rfl)) | (apply h_imm 3; (case h => assumption); (case e => with_unfolding_all rfl)) | (apply h_imm 4; (case h => assumption); (case e => with_unfolding_all rfl)) | (apply h_imm 5; (case h => assumption); (case e => with_unfolding_all rfl))))))))
  | (apply And.intro; (case left => (first | decide | omega)))
  | (apply h_mr; (case h1 => (first | decide | omega)); (case h2 => (first | decide | omega)))
  | (apply h_ml; (case h1 => (first | decide | omega)); (case h2 => (first | decide | omega)))
  | (apply h_dv; (case h1 => (first | decide | omega)); (case h2 => (first | decide | omega)))
  | (apply h_pw; (case h1 => (first | decide | omega)); (case h2 => (first | decide | omega)); (case h3 => decide))
  | (apply And.intro; (case left => (rw [sizeLine_eq]; ((try simp only [List.length_append, List.length_cons, List.length_nil, List.length_map, List.length_replicate, List.length_set, List.length_take, List.length_drop]) <;> omega))))
  | (apply h_wnum 0; (case h => assumption); (case e => with_unfolding_all rfl); (case h0 => (first | decide | omega)); (case h1 => (first | decide | omega)); (case h2 => (first | decide | omega)); (case h3 => (first | decide | omega)))
  | (apply h_wnum 1; (case h => assumption); (case e => with_unfolding_all rfl); (case h0 => (first | decide | omega)); (case h1 => (first | decide | omega)); (case h2 => (first | decide | omega)); (case h3 => (first | decide | omega)))
  | (apply h_wnum 2; (case h => assumption); (case e => with_unfolding_all rfl); (case h0 => (first | decide | omega)); (case h1 => (first | decide | omega)); (case h2 => (first | decide | omega)); (case h3 => (first | decide | omega)))
  | (apply h_rdword 0; (case h => assumption); (case e => with_unfolding_all rfl); (case h0 => (first | decide | omega)); (case h1 => (first | decide | omega)); (case h2 => (first | decide | omega)); (case h3 => (first | decide | omega)))
  | (apply h_rdword 1; (case h => assumption); (case e => with_unfolding_all rfl); (case h0 => (first | decide | omega)); (case h1 => (first | decide | omega)); (case h2 => (first | decide | omega)); (case h3 => (first | decide | omega)))
  | (apply h_rdword 2; (case h => assumption); (case e => with_unfolding_all rfl); (case h0 => (first | decide | omega)); (case h1 => (first | decide | omega)); (case h2 => (first | decide | omega)); (case h3 => (first | decide | omega)))
  | (apply h_rslot 0; (case h => assumption); (case e => with_unfolding_all rfl); (case h0 => (first | decide | omega)); (case h1 => (first | decide | omega)); (case h2 => (first | decide | omega)); (case h3 => (first | decide | omega)); (case h4 => (first | decide | omega)); (case h5 => (first | decide | omega)); (case h6 => (first | decide | omega)); (case h7 => (first | decide | omega)))
  | (apply h_rslot 1; (case h => assumption); (case e => with_unfolding_all rfl); (case h0 => (first | decide | omega)); (case h1 => (first | decide | omega)); (case h2 => (first | decide | omega)); (case h3 => (first | decide | omega)); (case h4 => (first | decide | omega)); (case h5 => (first | decide | omega)); (case h6 => (first | decide | omega)); (case h7 => (first | decide | omega)))
  | (apply h_rslot 2; (case h => assumption); (case e => with_unfolding_all rfl); (case h0 => (first | decide | omega)); (case h1 => (first | decide | omega)); (case h2 => (first | decide | omega)); (case h3 => (first | decide | omega)); (case h4 => (first | decide | omega)); (case h5 => (first | decide | omega)); (case h6 => (first | decide | omega)); (case h7 => (first | decide | omega)))
  | (apply h_put 0; (case h => assumption); (case e => with_unfolding_all rfl); (case h0 => (first | decide | omega)); (case h1 => (first | decide | omega)); (case h2 => (first | decide | omega)); (case h3 => (first | decide | omega)); (case hs => (first | assumption | (apply Or.inl; assumption) | (apply Or.inr; simp))))
  | (apply h_put 1; (case h => assumption); (case e => with_unfolding_all rfl); (case h0 => (first | decide | omega)); (case h1 => (first | decide | omega)); (case h2 => (first | decide | omega)); (case h3 => (first | decide | omega)); (case hs => (first | assumption | (apply Or.inl; assumption) | (apply Or.inr; simp))))
  | (apply h_put 2; (case h => assumption); (case e => with_unfolding_all rfl); (case h0 => (first | decide | omega)); (case h1 => (first | decide | omega)); (case h2 => (first | decide | omega)); (case h3 => (first | decide | omega)); (case hs => (first | assumption | (apply Or.inl; assumption) | (apply Or.inr; simp))))
  | (apply h_wrword 0; (case h => assumption); (case e => with_unfolding_all rfl); (case h0 => (first | decide | omega)); (case h1 => (first | decide | omega)); (case h2 => (first | decide | omega)); (case h3 => (first | decide | omega)); (case hs => (first | assumption | (apply Or.inl; assumption) | (apply Or.inr; simp))))
  | (apply h_wrword 1; (case h => assumption); (case e => with_unfolding_all rfl); (case h0 => (first | decide | omega)); (case h1 => (first | decide | omega)); (case h2 => (first | decide | omega)); (case h3 => (first | decide | omega)); (case hs => (first | assumption | (apply Or.inl; assumption) | (apply Or.inr; simp))))
  | (apply h_wrword 2; (case h => assumption); (case e => with_unfolding_all rfl); (case h0 => (first | decide | omega)); (case h1 => (first | decide | omega)); (case h2 => (first | decide | omega)); (case h3 => (first | decide | omega)); (case hs => (first | assumption | (apply Or.inl; assumption) | (apply Or.inr; simp))))
  | (apply h_power; (case h0 => (first | decide | omega)); (case h1 => (first | decide | omega)))
  | (apply h_bounds; (case h => assumption); (case h0 => (first | decide | omega)); (case h1 => (first | decide | omega)))) | with_reducible intro))

theorem wn_next {ds : List Int} {o n i : Nat} {big : Bool} (h : o + n ≤ ds.length) (hi : i < n) : vn 256 ((ord big (seg ds o n)).drop (n - (i + 1))) = vn 256 ((ord big (seg ds o n)).drop (n - i)) * 256 + ds.getD (o + if big = true then i else n - 1 - i) 0 := by
  have hl : (ord big (seg ds o n)).length = n := by rw [ord_len, seg_len h]
  have hj : n - (i + 1) < (ord big (seg ds o n)).length := by omega
  rw [List.drop_eq_getElem_cons hj, vn, show n - (i + 1) + 1 = n - i by omega]
  have e : (ord big (seg ds o n))[n - (i + 1)] = (ord big (seg ds o n)).getD (n - (i + 1)) 0 := by rw [List.getD_eq_getElem?_getD, List.getElem?_eq_getElem hj]; rfl
  rw [e, ord_get (by rw [seg_len h]; omega), seg_len h]
  cases big
  · simp only [Bool.false_eq_true, if_false]
    rw [seg_get (by omega), show n - (i + 1) = n - 1 - i by omega]
    omega
  · simp only [if_true]
    rw [show n - 1 - (n - (i + 1)) = i by omega, seg_get hi]
    omega
theorem pw_next {ds : List Int} {o n i : Nat} {big : Bool} {z : Int} (h : o + n ≤ ds.length) (hi : i < n) : (putSeg ds o (ord big (dg 256 i z ++ (ord big (seg ds o n)).drop i))).set (o + if big = true then n - 1 - i else i) (z / 256 ^ i % 256) = putSeg ds o (ord big (dg 256 (i + 1) z ++ (ord big (seg ds o n)).drop (i + 1))) := by
  have hl : (dg 256 i z ++ (ord big (seg ds o n)).drop i).length = n := by rw [List.length_append, dg_len, List.length_drop, ord_len, seg_len h]; omega
  rw [putSeg_set (by rw [ord_len, hl]; exact h) (by rw [ord_len, hl]; split <;> omega)]
  have e := ord_set (big := big) (l := dg 256 i z ++ (ord big (seg ds o n)).drop i) (i := i) (z := z / 256 ^ i % 256) (by omega)
  rw [hl] at e
  rw [e, List.set_append_right i _ (by rw [dg_len]; exact Nat.le_refl _), dg_len, Nat.sub_self, dg_snoc (by decide), List.append_assoc]
  have hj : i < (ord big (seg ds o n)).length := by rw [ord_len, seg_len h]; exact hi
  rw [List.drop_eq_getElem_cons hj, List.set_cons_zero]
  rfl
def t_power (K : PySem.W.Frag) (A : Ad) : TS :=
  (tSeq (tAsg (tC (.int 1)) (gName 1))
  (tSeq (tFor (jR1 (tCons (mV 0) tNil)) (gName 2)
    (tAsg (tOp mMul (mV 1) (tC (.int 2))) (gName 1)))
  (tRet (mV 1))))
theorem rd_power {K : PySem.W.Frag} {A : Ad} {vs : List V} {H : Hp} {Q : VK} {E : XK} (h : sp_power K A vs H Q E) : t_power K A { nx := fun _ H' => Q .non H', rt := Q } (start ["exponent", "number", "_"] vs) H := by
  obtain ⟨n, rfl, h0, h1, k⟩ := h
  show t_power K A _ [some (.int n), none, none] H
  unfold t_power
  walk_at "gs"
  refine lpR (fun i σ H1 => H1 = H ∧ ∃ y : Option V, σ = [some (.int n), some (.int (2 ^ i)), y]) ⟨rfl, none, rfl⟩ ?_ ?_
  · rintro i σ H1 hi ⟨rfl, y, rfl⟩
    walk_at "gs"
    exact ⟨_, by rw [Int.pow_succ]⟩
  · rintro σ H1 ⟨rfl, y, rfl⟩
    walk_at "gs"
    exact k
def t_bounds (K : PySem.W.Frag) (A : Ad) : TS :=
  (tSeq (mIf (mTr K (mV 1))
    (tRet (tTup (tCons (tOp mSub (tC (.int 0)) (tCall (sp_power K A) [] E0 (tCons (tOp mSub (mV 0) (tC (.int 1))) tNil))) (tCons (tOp mSub (tCall (sp_power K A) [] E0 (tCons (tOp mSub (mV 0) (tC (.int 1))) tNil)) (tC (.int 1))) tNil))))
    tNext)
  (tRet (tTup (tCons (tC (.int 0)) (tCons (tOp mSub (tCall (sp_power K A) [] E0 (tCons (mV 0) tNil)) (tC (.int 1))) tNil)))))
theorem rd_bounds {K : PySem.W.Frag} {A : Ad} {vs : List V} {H : Hp} {Q : VK} {E : XK} (h : sp_bounds K A vs H Q E) : t_bounds K A { nx := fun _ H' => Q .non H', rt := Q } (start ["width", "signed"] vs) H := by
  obtain ⟨w, s, rfl, h0, h1, k⟩ := h
  show t_bounds K A _ [some (.int w), some (.bl s)] H
  unfold t_bounds
  have hL : Led K H [] H [] [] := Led.start
  have e : (w - 1).toNat = w.toNat - 1 := by omega
  cases s
  · walk_at "gs"
    rename_i p H1 h2
    exact k p H1 (KBs.same h2.kp) (h2.im 0 _ _ rfl)
  · walk_at "gs"
    rename_i p H1 h2
    rw [e] at h2
    exact k p H1 (KBs.same h2.kp) (h2.im 0 _ _ rfl)
def t_word_number (K : PySem.W.Frag) (A : Ad) : TS :=
  (tSeq (tAsg (tC (.int 0)) (gName 4))
  (tSeq (tFor (jR1 (tCons (mV 2) tNil)) (gName 5)
    (tSeq (tAsg (tOp (rIx K) (mV 0) (tOp (mAdd K) (mV 1) (mIfE (mTr K (mV 3)) (mV 5) (tOp mSub (tOp mSub (mV 2) (tC (.int 1))) (mV 5))))) (gName 6))
  (tAsg (tOp (mAdd K) (tOp mMul (mV 4) (tC (.int 256))) (mV 6)) (gName 4))))
  (tRet (mV 4))))
theorem rd_word_number {K : PySem.W.Frag} {A : Ad} {vs : List V} {H : Hp} {Q : VK} {E : XK} (h : sp_word_number K A vs H Q E) : t_word_number K A { nx := fun _ H' => Q .non H', rt := Q } (start ["data", "offset", "size", "big", "number", "at", "byte"] vs) H := by
  obtain ⟨a, ds, o, n, big, rfl, hS, h0, h1, h2, h3, k⟩ := h
  show t_word_number K A _ [some (.ref a), some (.int o), some (.int n), some (.bl big), none, none, none] H
  unfold t_word_number
  have hz : o.toNat + n.toNat ≤ ds.length := by omega
  walk_at "gs"
  refine lpR (fun i σ H1 => H1 = H ∧ ∃ y5 y6 : Option V, σ = [some (.ref a), some (.int o), some (.int n), some (.bl big), some (.int (vn 256 ((ord big (seg ds o.toNat n.toNat)).drop (n.toNat - i)))), y5, y6])
    ⟨rfl, none, none, by rw [Nat.sub_zero, List.drop_eq_nil_of_le (by rw [ord_len, seg_len hz]; exact Nat.le_refl _)]; rfl⟩ ?_ ?_
  · rintro i σ H1 hi ⟨rfl, y5, y6, rfl⟩
    have nx := wn_next (big := big) hz hi
    walk_at "gs"
    cases big
    · walk_at "gs"
      refine h_ixQ hS (at_ints (by omega) (by omega)) ?_
      walk_at "gs"
      simp only [Bool.false_eq_true, if_false] at nx
      exact ⟨_, _, by rw [nx, show (o + (n - 1 - (0 + (i : Int)))).toNat = o.toNat + (n.toNat - 1 - i) by omega]⟩
    · walk_at "gs"
      refine h_ixQ hS (at_ints (by omega) (by omega)) ?_
      walk_at "gs"
      simp only [if_true] at nx
      exact ⟨_, _, by rw [nx, show (o + (0 + (i : Int))).toNat = o.toNat + i by omega]⟩
  · rintro σ H1 ⟨rfl, y5, y6, rfl⟩
    rw [Nat.sub_self, List.drop_zero]
    walk_at "gs"
    exact k
def t_put_word_number (K : PySem.W.Frag) (A : Ad) : TS :=
  (tFor (jR1 (tCons (mV 2) tNil)) (gName 5)
    (tSeq (tAsg (tOp mMod (mV 4) (tC (.int 256))) (gSub (mV 0) (tOp (mAdd K) (mV 1) (mIfE (mTr K (mV 3)) (tOp mSub (tOp mSub (mV 2) (tC (.int 1))) (mV 5)) (mV 5))) rSetL))
  (tAsg (tOp mFdiv (mV 4) (tC (.int 256))) (gName 4))))
theorem rd_put_word_number {K : PySem.W.Frag} {A : Ad} {vs : List V} {H : Hp} {Q : VK} {E : XK} (h : sp_put_word_number K A vs H Q E) : t_put_word_number K A { nx := fun _ H' => Q .non H', rt := Q } (start ["data", "offset", "size", "big", "number", "at"] vs) H := by
  obtain ⟨a, ds, o, n, big, z, rfl, ha, h0, h1, h2, h3, k⟩ := h
  show t_put_word_number K A _ [some (.ref a), some (.int o), some (.int n), some (.bl big), some (.int z), none] H
  unfold t_put_word_number
  have hz : o.toNat + n.toNat ≤ ds.length := by omega
  have hL : Led K H [a] H [(a, .raw (.lst (ds.map V.int)))] [] := Led.mk1 ha
  have hl : ∀ i : Nat, i ≤ n.toNat → (ord big (dg 256 i z ++ (ord big (seg ds o.toNat n.toNat)).drop i)).length = n.toNat := fun i hi => by rw [ord_len, List.length_append, dg_len, List.length_drop, ord_len, seg_len hz]; omega
  walk_at "gs"
  refine lpR (fun i σ H1 => ∃ y : Option V, σ = [some (.ref a), some (.int o), some (.int n), some (.bl big), some (.int (z / 256 ^ i)), y] ∧
      Led K H [a] H1 [(a, .raw (.lst ((putSeg ds o.toNat (ord big (dg 256 i z ++ (ord big (seg ds o.toNat n.toNat)).drop i))).map V.int)))] [])
    ⟨none, by rw [Int.pow_zero, Int.ediv_one], by rw [List.drop_zero]; show Led K H [a] H [(a, .raw (.lst ((putSeg ds o.toNat (ord big (ord big (seg ds o.toNat n.toNat)))).map V.int)))] []; rw [ord_ord, putSeg_seg hz]; exact hL⟩ ?_ ?_
  · rintro i σ H1 hi ⟨y, rfl, hl1⟩
    have nx := pw_next (big := big) (z := z) hz hi
    have hlen : (putSeg ds o.toNat (ord big (dg 256 i z ++ (ord big (seg ds o.toNat n.toNat)).drop i))).length = ds.length := putSeg_len (by rw [hl i (by omega)]; exact hz)
    have e : z / 256 ^ i / 256 = z / 256 ^ (i + 1) := by rw [Int.ediv_ediv_of_nonneg (Int.le_of_lt (Int.pow_pos (by decide))), Int.pow_succ]
    walk_at "gs"
    cases big
    · walk_at "gs"
      refine h_setI 0 hl1 rfl (.inr (by simp)) (by omega) (by omega) fun H2 h2 => ?_
      rw [show (o + (0 + (i : Int))).toNat = o.toNat + i by omega] at h2
      walk_at "gs"
      rw [e]
      refine ⟨_, rfl, ?_⟩
      rw [← nx]
      exact h2
    · walk_at "gs"
      refine h_setI 0 hl1 rfl (.inr (by simp)) (by omega) (by omega) fun H2 h2 => ?_
      rw [show (o + (n - 1 - (0 + (i : Int)))).toNat = o.toNat + (n.toNat - 1 - i) by omega] at h2
      walk_at "gs"
      rw [e]
      refine ⟨_, rfl, ?_⟩
      rw [← nx]
      exact h2
  · rintro σ H1 ⟨y, rfl, h4⟩
    rw [List.drop_eq_nil_of_le (by rw [ord_len, seg_len hz]; exact Nat.le_refl _), List.append_nil] at h4
    exact k H1 h4.kp (h4.raw 0 rfl)
def t_read_slot (K : PySem.W.Frag) (A : Ad) : TS :=
  (tSeq (tAsg (tOp mMod (tOp mFdiv (tCall (sp_word_number K A) [] E0 (tCons (mV 0) (tCons (mV 1) (tCons (mV 2) (tCons (mV 3) tNil))))) (tCall (sp_power K A) [] E0 (tCons (mV 4) tNil))) (tCall (sp_power K A) [] E0 (tCons (mV 5) tNil))) (gName 7))
  (tSeq (mIf (tAnd (mTr K (mV 6)) (mTest (tOp mGe (mV 7) (tCall (sp_power K A) [] E0 (tCons (tOp mSub (mV 5) (tC (.int 1))) tNil)))))
    (tRet (tOp mSub (mV 7) (tCall (sp_power K A) [] E0 (tCons (mV 5) tNil))))
    tNext)
  (tRet (mV 7))))
theorem rd_read_slot {K : PySem.W.Frag} {A : Ad} {vs : List V} {H : Hp} {Q : VK} {E : XK} (h : sp_read_slot K A vs H Q E) : t_read_slot K A { nx := fun _ H' => Q .non H', rt := Q } (start ["data", "offset", "size", "big", "first", "width", "signed", "number"] vs) H := by
  obtain ⟨a, ds, o, n, big, f, w, s, rfl, hS, h0, h1, h2, h3, h4, h5, h6, h7, k⟩ := h
  show t_read_slot K A _ [some (.ref a), some (.int o), some (.int n), some (.bl big), some (.int f), some (.int w), some (.bl s), none] H
  unfold t_read_slot
  have e : (w - 1).toNat = w.toNat - 1 := by omega
  have pf := p2_pos f.toNat
  have pw := p2_pos w.toNat
  have pf2 : (2 : Int) ^ f.toNat ≤ 2 ^ 63 := p2_le (by omega)
  walk_at "gs"
  refine ⟨a, ds, o, n, big, rfl, hS, h0, h1, h2, h3, ?_⟩
  walk_at "gs"
  unfold rslot sgn at k
  refine h_itb (fun hs => ?_) (fun hs => ?_)
  · subst hs
    walk_at "gs"
    refine h_br (fun hc => ?_) (fun hc => ?_)
    · rw [e] at hc
      rw [if_pos ⟨rfl, hc⟩] at k
      walk_at "gs"
      exact k
    · rw [e] at hc
      rw [if_neg (fun z => hc z.2)] at k
      walk_at "gs"
      exact k
  · subst hs
    rw [if_neg (fun z => Bool.false_ne_true z.1)] at k
    walk_at "gs"
    exact k
def t_write_slot (K : PySem.W.Frag) (A : Ad) (W : WX) : TS :=
  (tSeq (tAsg (tCall (sp_bounds K A) [] E0 (tCons (mV 5) (tCons (mV 6) tNil))) (gTup K 2 (mGc (gName 8) (mGc (gName 9) mGn))))
  (tSeq (mIf (tOr (mTest (tOp mLt (mV 7) (mV 8))) (mTest (tOp mGt (mV 7) (mV 9))))
    (mRaise0 A.c_OutOfRange W)
    tNext)
  (tSeq (tAsg (tCall (sp_word_number K A) [] E0 (tCons (mV 0) (tCons (mV 1) (tCons (mV 2) (tCons (mV 3) tNil))))) (gName 10))
  (tSeq (tAsg (tOp mMod (tOp mFdiv (mV 10) (tCall (sp_power K A) [] E0 (tCons (mV 4) tNil))) (tCall (sp_power K A) [] E0 (tCons (mV 5) tNil))) (gName 11))
  (tSeq (tAsg (tOp mMod (mV 7) (tCall (sp_power K A) [] E0 (tCons (mV 5) tNil))) (gName 12))
  (tDrop (tCall (sp_put_word_number K A) [] E0 (tCons (mV 0) (tCons (mV 1) (tCons (mV 2) (tCons (mV 3) (tCons (tOp (mAdd K) (mV 10) (tOp mMul (tOp mSub (mV 12) (mV 11)) (tCall (sp_power K A) [] E0 (tCons (mV 4) tNil)))) tNil))))))))))))
theorem rd_write_slot {K : PySem.W.Frag} {A : Ad} {vs : List V} {H : Hp} {Q : VK} {E : XK} (h : sp_write_slot K A vs H Q E) : t_write_slot K A (fun cls d _ H => E cls d H) { nx := fun _ H' => Q .non H', rt := Q } (start ["data", "offset", "size", "big", "first", "width", "signed", "value", "least", "most", "number", "old", "new"] vs) H := by
  obtain ⟨a, ds, o, n, big, f, w, s, v, rfl, ha, h0, h1, h2, h3, h4, h5, h6, h7, kx, k⟩ := h
  show t_write_slot K A _ _ [some (.ref a), some (.int o), some (.int n), some (.bl big), some (.int f), some (.int w), some (.bl s), some (.int v), none, none, none, none, none] H
  unfold t_write_slot
  have hL : Led K H [a] H [(a, .raw (.lst (ds.map V.int)))] [] := Led.mk1 ha
  have e : (w - 1).toNat = w.toNat - 1 := by omega
  have pf := p2_pos f.toNat
  have pw := p2_pos w.toNat
  have pf2 : (2 : Int) ^ f.toNat ≤ 2 ^ 63 := p2_le (by omega)
  have pw2 : (2 : Int) ^ w.toNat ≤ 2 ^ 63 := p2_le (by omega)
  walk_at "gs"
  rename_i p H1 hp1
  have s1 : Same H H1 := fun b u hb => by
    rcases Classical.em (b = a) with z | z
    · subst z
      rw [hb] at ha
      cases ha
      exact hp1.raw 0 rfl
    · exact hp1.kp b u hb (by simpa using z)
  have raise : (v < lo w.toNat s ∨ hi w.toNat s < v) → E (.ref A.c_OutOfRange) none H1 := fun q => kx q H1 s1
  refine h_ite (fun hc => ?_) (fun hc => ?_)
  · walk_at "gs"
    exact raise (.inl hc)
  · walk_at "gs"
    refine h_br (fun hc2 => ?_) (fun hc2 => ?_)
    · walk_at "gs"
      exact raise (.inr hc2)
    · clear hL
      walk_at "gs"
      have b1 := Int.emod_nonneg v (show (2 : Int) ^ w.toNat ≠ 0 by omega)
      have b2 := Int.emod_lt_of_pos v pw
      have b3 := Int.emod_nonneg (wnum ds o.toNat n.toNat big / 2 ^ f.toNat) (show (2 : Int) ^ w.toNat ≠ 0 by omega)
      have b4 := Int.emod_lt_of_pos (wnum ds o.toNat n.toNat big / 2 ^ f.toNat) pw
      walk_at "gs"
      rename_i H2 h8
      exact k (by omega) (by omega) H2 h8.kp (h8.raw 0 rfl)
def t_read_word (K : PySem.W.Frag) (A : Ad) : TS :=
  (tRet (tCall (sp_word_number K A) [] E0 (tCons (mV 0) (tCons (mV 1) (tCons (mV 2) (tCons (tC (.bl false)) tNil))))))
theorem rd_read_word {K : PySem.W.Frag} {A : Ad} {vs : List V} {H : Hp} {Q : VK} {E : XK} (h : sp_read_word K A vs H Q E) : t_read_word K A { nx := fun _ H' => Q .non H', rt := Q } (start ["data", "offset", "size"] vs) H := by
  obtain ⟨a, ds, o, n, rfl, hS, h0, h1, h2, h3, k⟩ := h
  show t_read_word K A _ [some (.ref a), some (.int o), some (.int n)] H
  unfold t_read_word
  walk_at "gs"
  exact ⟨a, ds, o, n, false, rfl, hS, h0, h1, h2, h3, k⟩
def t_write_word (K : PySem.W.Frag) (A : Ad) : TS :=
  (tDrop (tCall (sp_put_word_number K A) [] E0 (tCons (mV 0) (tCons (mV 1) (tCons (mV 2) (tCons (tC (.bl false)) (tCons (mV 3) tNil)))))))
theorem rd_write_word {K : PySem.W.Frag} {A : Ad} {vs : List V} {H : Hp} {Q : VK} {E : XK} (h : sp_write_word K A vs H Q E) : t_write_word K A { nx := fun _ H' => Q .non H', rt := Q } (start ["data", "offset", "size", "value"] vs) H := by
  obtain ⟨a, ds, o, n, z, rfl, ha, h0, h1, h2, h3, k⟩ := h
  show t_write_word K A _ [some (.ref a), some (.int o), some (.int n), some (.int z)] H
  unfold t_write_word
  walk_at "gs"
  refine ⟨a, ds, o, n, false, z, rfl, ha, h0, h1, h2, h3, fun H1 kb h1 => ?_⟩
  walk_at "gs"
  exact k H1 kb h1

/-! ### more of works, for the laws -/
theorem pick_tail (A X : List (Addr × Ent)) : pickL ((List.range X.length).map (· + A.length)) (A ++ X) = X := by
  refine List.ext_getElem? fun i => ?_
  unfold pickL
  rw [List.map_map, List.getElem?_map]
  by_cases h : i < X.length
  · rw [List.getElem?_range h]
    show some ((A ++ X)[i + A.length]?.getD (0, .dl [])) = X[i]?
    rw [List.getElem?_append_right (by omega), Nat.add_sub_cancel, List.getElem?_eq_getElem h]
    rfl
  · rw [List.getElem?_eq_none (by rw [List.length_range]; omega), List.getElem?_eq_none (by omega)]
    rfl
section
variable {K : PySem.W.Frag} {Ad' : Ad} {H0 H H' : Hp} {S : List Addr} {I : List (V × PyData)} {A X : List (Addr × Ent)}
theorem Led.pre (h : Led K H0 S H (A ++ X) I) (S1 : List Addr) (I1 : List (V × PyData)) (hi : ∀ (n : Nat) v d, I1[n]? = some (v, d) → Im K H v d) : Led K H S1 H A I1 := by
  refine ⟨?_, fun n b e q => h.at_ n b e ?_, hi, KBs.refl⟩
  · have q := h.nd
    rw [List.map_append] at q
    exact (List.nodup_append.mp q).1
  · rw [List.getElem?_append_left (List.getElem?_eq_some_iff.mp q).1]
    exact q
/-- back from a callee that had the entries A and may have changed those at g -/
theorem Led.backA {L1 : List (Addr × Ent)} {I1 : List (V × PyData)} {S1 : List Addr} (h : Led K H0 S H (A ++ X) I) (g : List Nat) (c : Led K H S1 H' L1 I1) (hS : ∀ b ∈ S1, b ∈ adr A g) (hd : ∀ e ∈ L1, e.1 ∈ A.map (·.1) ∨ H e.1 = none) (hs : ∀ b ∈ adr A g, H0 b = none ∨ b ∈ S)
    (hg : (g.all fun n => decide (n < A.length)) = true := by rfl) (hm : (g.all fun n => entMut (A[n]?.getD (0, .dl [])).2) = true := by rfl) : Led K H0 S H' (L1 ++ X) (I1 ++ I) := by
  have inA : ∀ n ∈ g, n < A.length := fun n hn => of_decide_eq_true (List.all_eq_true.mp hg n hn)
  have at1 : ∀ n, n < A.length → (A ++ X)[n]? = A[n]? := fun n hn => List.getElem?_append_left hn
  have adrg : adr (A ++ X) g = adr A g := List.map_congr_left fun n hn => by rw [at1 n (inA n hn)]
  have q := h.back ((List.range X.length).map (· + A.length)) g (List.range A.length) c (by rw [adrg]; exact hS) (fun e he => (hd e he).imp (fun m => by
      obtain ⟨y, hy, hy2⟩ := List.mem_map.mp m
      obtain ⟨i, hi, hi2⟩ := List.getElem_of_mem hy
      refine List.mem_map.mpr ⟨i, List.mem_range.mpr hi, ?_⟩
      rw [at1 i hi, List.getElem?_eq_getElem hi, hi2, ← hy2]
      rfl) id) (by rw [adrg]; exact hs)
    (List.nodup_append.mpr ⟨List.pairwise_map.mpr ((List.nodup_range (n := X.length)).imp fun h e => h (by omega)), List.nodup_range, fun a ha b hb e => by
      obtain ⟨i, _, hi⟩ := List.mem_map.mp ha
      have := List.mem_range.mp hb
      omega⟩)
    (List.all_eq_true.mpr fun n hn => List.contains_iff_mem.mpr (List.mem_range.mpr (inA n hn)))
    (List.all_eq_true.mpr fun n hn => decide_eq_true (by
      rw [List.length_append]
      rcases List.mem_append.mp hn with hn | hn
      · obtain ⟨i, hi, rfl⟩ := List.mem_map.mp hn
        have := List.mem_range.mp hi
        omega
      · have := List.mem_range.mp hn
        omega))
    (List.all_eq_true.mpr fun n hn => by
      rw [at1 n (inA n hn)]
      exact List.all_eq_true.mp hm n hn)
  rw [pick_tail] at q
  exact q
end
theorem putSeg_get {D s : List Int} {p : Nat} (h : p + s.length ≤ D.length) (j : Nat) : (putSeg D p s)[j]? = if j < p then D[j]? else if j < p + s.length then s[j - p]? else D[j]? := by
  unfold putSeg
  have e : (D.take p).length = p := by rw [List.length_take]; omega
  by_cases h1 : j < p
  · rw [if_pos h1, List.append_assoc, List.getElem?_append_left (by omega), List.getElem?_take_of_lt h1]
  · rw [if_neg h1]
    by_cases h2 : j < p + s.length
    · rw [if_pos h2, List.getElem?_append_left (by rw [List.length_append]; omega), List.getElem?_append_right (by omega), e]
    · rw [if_neg h2, List.getElem?_append_right (by rw [List.length_append]; omega), List.length_append, e, List.getElem?_drop, show p + s.length + (j - (p + s.length)) = j by omega]
theorem putSeg_nil {D : List Int} {p : Nat} : putSeg D p [] = D := by
  unfold putSeg
  rw [List.append_nil, List.length_nil, Nat.add_zero, List.take_append_drop]
theorem putSeg_snoc {D bs : List Int} {p i : Nat} (h : p + bs.length ≤ D.length) (hi : i < bs.length) : (putSeg D p (bs.take i)).set (p + i) (bs.getD i 0) = putSeg D p (bs.take (i + 1)) := by
  have l1 : (bs.take i).length = i := by rw [List.length_take]; omega
  have l2 : (bs.take (i + 1)).length = i + 1 := by rw [List.length_take]; omega
  refine List.ext_getElem? fun j => ?_
  rw [List.getElem?_set, putSeg_len (by rw [l1]; omega), putSeg_get (by rw [l1]; omega), putSeg_get (by rw [l2]; omega), l1, l2]
  by_cases e : p + i = j
  · subst e
    rw [if_pos rfl, if_pos (by omega), if_neg (by omega), if_pos (by omega), Nat.add_sub_cancel_left, List.getElem?_take_of_lt (by omega), List.getD_eq_getElem?_getD, List.getElem?_eq_getElem hi]
    rfl
  · rw [if_neg e]
    by_cases h1 : j < p
    · rw [if_pos h1, if_pos h1]
    · rw [if_neg h1, if_neg h1]
      by_cases h2 : j < p + i
      · rw [if_pos h2, if_pos (by omega), List.getElem?_take_of_lt (by omega), List.getElem?_take_of_lt (by omega)]
      · rw [if_neg h2, if_neg (by omega)]
theorem seg_snoc {D : List Int} {p m : Nat} (h : p + m < D.length) : seg D p m ++ [D.getD (p + m) 0] = seg D p (m + 1) := by
  unfold seg
  rw [show p + (m + 1) = (p + m) + 1 by omega, List.take_add_one, List.drop_append_of_le_length (by rw [List.length_take]; omega), List.getElem?_eq_getElem h, List.getD_eq_getElem?_getD, List.getElem?_eq_getElem h]
  rfl
theorem seg_zero {D : List Int} {p : Nat} : seg D p 0 = [] := by
  unfold seg
  exact List.drop_eq_nil_of_le (by rw [List.length_take]; omega)
def sp__law_same (K : PySem.W.Frag) (A : Ad) : Sp := fun vs H Q _ => ∃ (x y : V) (d : PyData) (n W : Nat), vs = [x, y] ∧ Dp K H x d ∧ Dp K H y d ∧ shw n W d ∧ n ≤ 60 ∧ W ≤ 2 ^ 20 ∧ Q (.bl true) H
section
variable {K : PySem.W.Frag} {A : Ad} {H0 H : Hp} {S : List Addr} {L X : List (Addr × Ent)} {I : List (V × PyData)} {Q : VK} {E : XK} {a d : Addr} {x y : V}
theorem h_same {d : PyData} {n W : Nat} (hx : Dp K H x d) (hy : Dp K H y d) (h : shw n W d) (k : Q (.bl true) H) (h1 : n ≤ 60 := by decide) (h2 : W ≤ 2 ^ 20 := by decide) : sp__law_same K A [x, y] H Q E := ⟨x, y, d, n, W, rfl, hx, hy, h, h1, h2, k⟩
theorem h_sameI {i j : Int} (q : i = j) (h : i.natAbs < 10 ^ 12) (k : Q (.bl true) H) : sp__law_same K A [.int i, .int j] H Q E := by subst q; exact h_same (.int i) (.int i) (shw_int h) k
theorem h_inLs (n : Nat) (h : Led K H0 S H L I) {us : List V} (e : L[n]? = some (a, .raw (.lst us))) (f1 : flatV x = true) (f2 : us.all flatV = true) (k : Q (.bl (inV x us)) H) : uIn K x (.ref a) H Q :=
  .inl ⟨a, _, rfl, .inl (h.sqL n e), f1, f2, k⟩
theorem h_ninLs (n : Nat) (h : Led K H0 S H L I) {us : List V} (e : L[n]? = some (a, .raw (.lst us))) (f1 : flatV x = true) (f2 : us.all flatV = true) (k : Q (.bl (!inV x us)) H) : uNin K x (.ref a) H Q :=
  .inl ⟨a, _, rfl, .inl (h.sqL n e), f1, f2, k⟩
theorem h_gLst {n : Nat} {us : List V} {gs : TGs} {σ : L2.St} {Q : L2.St → Hp → Prop} (m : Nat) (h : Led K H0 S H L I) (e : L[m]? = some (a, .raw (.lst us))) (hn : us.length = n) (k : gs us σ H Q) : gLst K n gs (.ref a) σ H Q := ⟨a, us, rfl, h.sqL m e, hn, k⟩
end
theorem shw_ints {ds : List Int} (h : ∀ z ∈ ds, z.natAbs < 10 ^ 12) : shw 1 (ds.length * 42) (.list (ds.map PyData.int)) := by
  have q := shw_list (n := 0) (W := 41) (ds := ds.map PyData.int) fun x hx => by
    obtain ⟨z, hz, rfl⟩ := List.mem_map.mp hx
    exact shw_int (h z hz)
  rw [List.length_map] at q
  exact q

local macro_rules | `(tactic| walk_at "im") => `(tactic| (first | apply Im.int | apply Im.str | apply Im.bl | apply Im.non | assumption | (apply h_imm 0; (case h => assumption); (case e => with_unfolding_all rfl)) | (apply h_imm 1; (case h => assumption); (case e => with_unfolding_all rfl)) | (apply h_imm 2; (case h => assumption); (case e => with_unfolding_all rfl)) | (apply h_imm 3; (case h => assumption); (case e => with_unfolding_all rfl)) | (apply h_imm 4; (case h => assumption); (case e => with_unfolding_all rfl)) | (apply h_imm 5; (case h => assumption); (case e => with_unfolding_all rfl))))
local macro_rules | `(tactic| walk_at "ims") => `(tactic| repeat (first | apply Ims.nil | (apply Ims.cons; (focus (first | apply Im.int | apply Im.str | apply Im.bl | apply Im.non | assumption | (apply h_imm 0; (case h => assumption); (case e => with_unfolding_all rfl)) | (apply h_imm 1; (case h => assumption); (case e => with_unfolding_all rfl)) | (apply h_imm 2; (case h => assumption); (case e => with_unfolding_all rfl)) | (apply h_imm 3; (case h => assumption); (case e => with_unfolding_all rfl)) | (apply h_imm 4; (case h => assumption); (case e => with_unfolding_all rfl)) | (apply h_imm 5; (case h => assumption); (case e => with_unfolding_all rfl)))))))
local macro_rules | `(tactic| walk_at "sz") => `(tactic| (rw [sizeLine_eq]; ((try simp only [List.length_append, List.length_cons, List.length_nil, List.length_map, List.length_replicate, List.length_set, List.length_take, List.length_drop]) <;> omega)))
local macro_rules | `(tactic| walk_at "fr") => `(tactic| (first | assumption | (apply Or.inl; assumption) | (apply Or.inr; simp)))
local macro_rules | `(tactic| walk_at "ds") => `(tactic| dsimp only [a_lk0, a_lk1, a_lkS, a_V, a_vl, a_c, a_op, a_un, a_test, a_toB, a_tr, a_trB, a_trI, a_trN, a_and, a_or, a_not, a_andV, a_orV, a_notV, a_ifE, a_nil, a_cons, a_lst, a_tup, a_call, a_CB, a_BM, a_BM0, a_sl, a_part, a_partI, a_noPart, a_seq, a_next, a_brk, a_cont, a_asg, a_name, a_drop, a_ret, a_retN, a_if, a_aug, a_for, a_lc, a_jR1, a_jR2, a_jL, a_jT, a_rg1, a_rg2, a_gsub, a_yes, a_addI, a_addS, a_addR, a_iaddI, a_iaddS, a_sub, a_mulI, a_mulR, a_fdiv, a_mod, a_pow, a_shl, a_shr, a_lt, a_le, a_gt, a_ge, a_neg, a_EqI, a_EqS, a_EqB, a_EqNN, a_EqIN, a_EqNI, a_EqSN, a_EqNS, a_EqRR, a_EqRN, a_EqNR, a_NeI, a_NeS, a_NeB, a_NeNN, a_NeIN, a_NeNI, a_NeSN, a_NeNS, a_NeRR, a_NeRN, a_NeNR, a_isNN, a_isNI, a_isNS, a_isNB, a_isNR, a_notNN, a_notNI, a_notNS, a_notNB, a_notNR, a_intI, a_intB, a_abs, a_gnil, a_gcons, a_callS, a_raise0, a_tryAs, a_tryOnly, a_rev, a_jR3, a_fld, a_sfld, a_meth, a_methE, a_make, a_sfldaug, a_gslTo, wipe, List.set, List.nil_append, List.cons_append])
local macro_rules | `(tactic| walk_at "gs") => `(tactic| repeat (first | dsimp only [a_lk0, a_lk1, a_lkS, a_V, a_vl, a_c, a_op, a_un, a_test, a_toB, a_tr, a_trB, a_trI, a_trN, a_and, a_or, a_not, a_andV, a_orV, a_notV, a_ifE, a_nil, a_cons, a_lst, a_tup, a_call, a_CB, a_BM, a_BM0, a_sl, a_part, a_partI, a_noPart, a_seq, a_next, a_brk, a_cont, a_asg, a_name, a_drop, a_ret, a_retN, a_if, a_aug, a_for, a_lc, a_jR1, a_jR2, a_jL, a_jT, a_rg1, a_rg2, a_gsub, a_yes, a_addI, a_addS, a_addR, a_iaddI, a_iaddS, a_sub, a_mulI, a_mulR, a_fdiv, a_mod, a_pow, a_shl, a_shr, a_lt, a_le, a_gt, a_ge, a_neg, a_EqI, a_EqS, a_EqB, a_EqNN, a_EqIN, a_EqNI, a_EqSN, a_EqNS, a_EqRR, a_EqRN, a_EqNR, a_NeI, a_NeS, a_NeB, a_NeNN, a_NeIN, a_NeNI, a_NeSN, a_NeNS, a_NeRR, a_NeRN, a_NeNR, a_isNN, a_isNI, a_isNS, a_isNB, a_isNR, a_notNN, a_notNI, a_notNS, a_notNB, a_notNR, a_intI, a_intB, a_abs, a_gnil, a_gcons, a_callS, a_raise0, a_tryAs, a_tryOnly, a_rev, a_jR3, a_fld, a_sfld, a_meth, a_methE, a_make, a_sfldaug, a_gslTo, wipe, List.set, List.nil_append, List.cons_append] | with_reducible (first
  | (apply h_draw 0; (case h => assumption); (case e => with_unfolding_all rfl); (case e2 => with_unfolding_all rfl); (case h0 => (first | decide | omega | (simp only [List.length_map, List.length_append, List.length_take, List.length_drop, List.length_set]; omega))); (case h1 => (first | decide | omega | (simp only [List.length_map, List.length_append, List.length_take, List.length_drop, List.length_set]; omega))); (case h2 => (first | decide | omega | (simp only [List.length_map, List.length_append, List.length_take, List.length_drop, List.length_set]; omega))); (case hs => (first | assumption | (apply Or.inl; assumption) | (apply Or.inr; simp))))
  | (apply h_draw 1; (case h => assumption); (case e => with_unfolding_all rfl); (case e2 => with_unfolding_all rfl); (case h0 => (first | decide | omega | (simp only [List.length_map, List.length_append, List.length_take, List.length_drop, List.length_set]; omega))); (case h1 => (first | decide | omega | (simp only [List.length_map, List.length_append, List.length_take, List.length_drop, List.length_set]; omega))); (case h2 => (first | decide | omega | (simp only [List.length_map, List.length_append, List.length_take, List.length_drop, List.length_set]; omega))); (case hs => (first | assumption | (apply Or.inl; assumption) | (apply Or.inr; simp))))
  | (apply h_draw 2; (case h => assumption); (case e => with_unfolding_all rfl); (case e2 => with_unfolding_all rfl); (case h0 => (first | decide | omega | (simp only [List.length_map, List.length_append, List.length_take, List.length_drop, List.length_set]; omega))); (case h1 => (first | decide | omega | (simp only [List.length_map, List.length_append, List.length_take, List.length_drop, List.length_set]; omega))); (case h2 => (first | decide | omega | (simp only [List.length_map, List.length_append, List.length_take, List.length_drop, List.length_set]; omega))); (case hs => (first | assumption | (apply Or.inl; assumption) | (apply Or.inr; simp))))
  | (apply h_draw 3; (case h => assumption); (case e => with_unfolding_all rfl); (case e2 => with_unfolding_all rfl); (case h0 => (first | decide | omega | (simp only [List.length_map, List.length_append, List.length_take, List.length_drop, List.length_set]; omega))); (case h1 => (first | decide | omega | (simp only [List.length_map, List.length_append, List.length_take, List.length_drop, List.length_set]; omega))); (case h2 => (first | decide | omega | (simp only [List.length_map, List.length_append, List.length_take, List.length_drop, List.length_set]; omega))); (case hs => (first | assumption | (apply Or.inl; assumption) | (apply Or.inr; simp))))
  | (apply h_ixL 0; (case h => assumption); (case e => with_unfolding_all rfl); (case hx => with_unfolding_all rfl))
  | (apply h_ixL 1; (case h => assumption); (case e => with_unfolding_all rfl); (case hx => with_unfolding_all rfl))
  | (apply h_ixL 2; (case h => assumption); (case e => with_unfolding_all rfl); (case hx => with_unfolding_all rfl))
  | (apply h_ixL 3; (case h => assumption); (case e => with_unfolding_all rfl); (case hx => with_unfolding_all rfl))
  | (apply h_ixL 4; (case h => assumption); (case e => with_unfolding_all rfl); (case hx => with_unfolding_all rfl))
  | (apply h_ixTv; (case hd => (first | apply Im.int | apply Im.str | apply Im.bl | apply Im.non | assumption | (apply h_imm 0; (case h => assumption); (case e => with_unfolding_all rfl)) | (apply h_imm 1; (case h => assumption); (case e => with_unfolding_all rfl)) | (apply h_imm 2; (case h => assumption); (case e => with_unfolding_all rfl)) | (apply h_imm 3; (case h => assumption); (case e => with_unfolding_all rfl)) | (apply h_imm 4; (case h => assumption); (case e => with_unfolding_all rfl)) | (apply h_imm 5; (case h => assumption); (case e => with_unfolding_all rfl)))); (case h0 => (first | decide | omega | (simp only [List.length_map, List.length_append, List.length_take, List.length_drop, List.length_set]; omega))); (case hx => with_unfolding_all rfl); (case hv => with_unfolding_all rfl))
  | (apply h_slPre; (case h => assumption); (case hd => (first | apply Im.int | apply Im.str | apply Im.bl | apply Im.non | assumption | (apply h_imm 0; (case h => assumption); (case e => with_unfolding_all rfl)) | (apply h_imm 1; (case h => assumption); (case e => with_unfolding_all rfl)) | (apply h_imm 2; (case h => assumption); (case e => with_unfolding_all rfl)) | (apply h_imm 3; (case h => assumption); (case e => with_unfolding_all rfl)) | (apply h_imm 4; (case h => assumption); (case e => with_unfolding_all rfl)) | (apply h_imm 5; (case h => assumption); (case e => with_unfolding_all rfl)))); (case h0 => (first | decide | omega | (simp only [List.length_map, List.length_append, List.length_take, List.length_drop, List.length_set]; omega))))
  | (apply h_gtupV; (case h => (first | apply Im.int | apply Im.str | apply Im.bl | apply Im.non | assumption | (apply h_imm 0; (case h => assumption); (case e => with_unfolding_all rfl)) | (apply h_imm 1; (case h => assumption); (case e => with_unfolding_all rfl)) | (apply h_imm 2; (case h => assumption); (case e => with_unfolding_all rfl)) | (apply h_imm 3; (case h => assumption); (case e => with_unfolding_all rfl)) | (apply h_imm 4; (case h => assumption); (case e => with_unfolding_all rfl)) | (apply h_imm 5; (case h => assumption); (case e => with_unfolding_all rfl)))); (case hn => with_unfolding_all rfl); (case hv => with_unfolding_all rfl))
  | (apply h_isiB)
  | (apply h_eqr)
  | (apply iteT)
  | (apply h_nT)
  | (apply h_nF)
  | (apply iteF)
  | (apply h_brT)
  | (apply h_brF)
  | (apply h_brET)
  | (apply h_brEF)
  | (apply h_brNT)
  | (apply h_brNF)
  | (apply h_append 0; (case h => assumption); (case e => with_unfolding_all rfl); (case hs => (first | assumption | (apply Or.inl; assumption) | (apply Or.inr; simp))); (case z => (rw [sizeLine_eq]; ((try simp only [List.length_append, List.length_cons, List.length_nil, List.length_map, List.length_replicate, List.length_set, List.length_take, List.length_drop]) <;> omega))))
  | (apply h_append 1; (case h => assumption); (case e => with_unfolding_all rfl); (case hs => (first | assumption | (apply Or.inl; assumption) | (apply Or.inr; simp))); (case z => (rw [sizeLine_eq]; ((try simp only [List.length_append, List.length_cons, List.length_nil, List.length_map, List.length_replicate, List.length_set, List.length_take, List.length_drop]) <;> omega))))
  | (apply h_append 2; (case h => assumption); (case e => with_unfolding_all rfl); (case hs => (first | assumption | (apply Or.inl; assumption) | (apply Or.inr; simp))); (case z => (rw [sizeLine_eq]; ((try simp only [List.length_append, List.length_cons, List.length_nil, List.length_map, List.length_replicate, List.length_set, List.length_take, List.length_drop]) <;> omega))))
  | (apply h_append 3; (case h => assumption); (case e => with_unfolding_all rfl); (case hs => (first | assumption | (apply Or.inl; assumption) | (apply Or.inr; simp))); (case z => (rw [sizeLine_eq]; ((try simp only [List.length_append, List.length_cons, List.length_nil, List.length_map, List.length_replicate, List.length_set, List.length_take, List.length_drop]) <;> omega))))
  | (apply h_append 4; (case h => assumption); (case e => with_unfolding_all rfl); (case hs => (first | assumption | (apply Or.inl; assumption) | (apply Or.inr; simp))); (case z => (rw [sizeLine_eq]; ((try simp only [List.length_append, List.length_cons, List.length_nil, List.length_map, List.length_replicate, List.length_set, List.length_take, List.length_drop]) <;> omega))))
  | (apply h_appendD 0; (case h => assumption); (case e => with_unfolding_all rfl); (case hd => (first | apply Im.int | apply Im.str | apply Im.bl | apply Im.non | assumption | (apply h_imm 0; (case h => assumption); (case e => with_unfolding_all rfl)) | (apply h_imm 1; (case h => assumption); (case e => with_unfolding_all rfl)) | (apply h_imm 2; (case h => assumption); (case e => with_unfolding_all rfl)) | (apply h_imm 3; (case h => assumption); (case e => with_unfolding_all rfl)) | (apply h_imm 4; (case h => assumption); (case e => with_unfolding_all rfl)) | (apply h_imm 5; (case h => assumption); (case e => with_unfolding_all rfl)))); (case hs => (first | assumption | (apply Or.inl; assumption) | (apply Or.inr; simp))); (case z => (rw [sizeLine_eq]; ((try simp only [List.length_append, List.length_cons, List.length_nil, List.length_map, List.length_replicate, List.length_set, List.length_take, List.length_drop]) <;> omega))))
  | (apply h_appendD 1; (case h => assumption); (case e => with_unfolding_all rfl); (case hd => (first | apply Im.int | apply Im.str | apply Im.bl | apply Im.non | assumption | (apply h_imm 0; (case h => assumption); (case e => with_unfolding_all rfl)) | (apply h_imm 1; (case h => assumption); (case e => with_unfolding_all rfl)) | (apply h_imm 2; (case h => assumption); (case e => with_unfolding_all rfl)) | (apply h_imm 3; (case h => assumption); (case e => with_unfolding_all rfl)) | (apply h_imm 4; (case h => assumption); (case e => with_unfolding_all rfl)) | (apply h_imm 5; (case h => assumption); (case e => with_unfolding_all rfl)))); (case hs => (first | assumption | (apply Or.inl; assumption) | (apply Or.inr; simp))); (case z => (rw [sizeLine_eq]; ((try simp only [List.length_append, List.length_cons, List.length_nil, List.length_map, List.length_replicate, List.length_set, List.length_take, List.length_drop]) <;> omega))))
  | (apply h_appendD 2; (case h => assumption); (case e => with_unfolding_all rfl); (case hd => (first | apply Im.int | apply Im.str | apply Im.bl | apply Im.non | assumption | (apply h_imm 0; (case h => assumption); (case e => with_unfolding_all rfl)) | (apply h_imm 1; (case h => assumption); (case e => with_unfolding_all rfl)) | (apply h_imm 2; (case h => assumption); (case e => with_unfolding_all rfl)) | (apply h_imm 3; (case h => assumption); (case e => with_unfolding_all rfl)) | (apply h_imm 4; (case h => assumption); (case e => with_unfolding_all rfl)) | (apply h_imm 5; (case h => assumption); (case e => with_unfolding_all rfl)))); (case hs => (first | assumption | (apply Or.inl; assumption) | (apply Or.inr; simp))); (case z => (rw [sizeLine_eq]; ((try simp only [List.length_append, List.length_cons, List.length_nil, List.length_map, List.length_replicate, List.length_set, List.length_take, List.length_drop]) <;> omega))))
  | (apply h_appendD 3; (case h => assumption); (case e => with_unfolding_all rfl); (case hd => (first | apply Im.int | apply Im.str | apply Im.bl | apply Im.non | assumption | (apply h_imm 0; (case h => assumption); (case e => with_unfolding_all rfl)) | (apply h_imm 1; (case h => assumption); (case e => with_unfolding_all rfl)) | (apply h_imm 2; (case h => assumption); (case e => with_unfolding_all rfl)) | (apply h_imm 3; (case h => assumption); (case e => with_unfolding_all rfl)) | (apply h_imm 4; (case h => assumption); (case e => with_unfolding_all rfl)) | (apply h_imm 5; (case h => assumption); (case e => with_unfolding_all rfl)))); (case hs => (first | assumption | (apply Or.inl; assumption) | (apply Or.inr; simp))); (case z => (rw [sizeLine_eq]; ((try simp only [List.length_append, List.length_cons, List.length_nil, List.length_map, List.length_replicate, List.length_set, List.length_take, List.length_drop]) <;> omega))))
  | (apply h_appendD 4; (case h => assumption); (case e => with_unfolding_all rfl); (case hd => (first | apply Im.int | apply Im.str | apply Im.bl | apply Im.non | assumption | (apply h_imm 0; (case h => assumption); (case e => with_unfolding_all rfl)) | (apply h_imm 1; (case h => assumption); (case e => with_unfolding_all rfl)) | (apply h_imm 2; (case h => assumption); (case e => with_unfolding_all rfl)) | (apply h_imm 3; (case h => assumption); (case e => with_unfolding_all rfl)) | (apply h_imm 4; (case h => assumption); (case e => with_unfolding_all rfl)) | (apply h_imm 5; (case h => assumption); (case e => with_unfolding_all rfl)))); (case hs => (first | assumption | (apply Or.inl; assumption) | (apply Or.inr; simp))); (case z => (rw [sizeLine_eq]; ((try simp only [List.length_append, List.length_cons, List.length_nil, List.length_map, List.length_replicate, List.length_set, List.length_take, List.length_drop]) <;> omega))))
  | (apply h_tyL 0; (case h => assumption); (case e => with_unfolding_all rfl))
  | (apply h_tyL 1; (case h => assumption); (case e => with_unfolding_all rfl))
  | (apply h_tyL 2; (case h => assumption); (case e => with_unfolding_all rfl))
  | (apply h_tyL 3; (case h => assumption); (case e => with_unfolding_all rfl))
  | (apply h_tyL 4; (case h => assumption); (case e => with_unfolding_all rfl))
  | (apply h_tyD 0; (case h => assumption); (case e => with_unfolding_all rfl))
  | (apply h_tyD 1; (case h => assumption); (case e => with_unfolding_all rfl))
  | (apply h_tyD 2; (case h => assumption); (case e => with_unfolding_all rfl))
  | (apply h_tyD 3; (case h => assumption); (case e => with_unfolding_all rfl))
  | (apply h_tyD 4; (case h => assumption); (case e => with_unfolding_all rfl))
  | (apply h_tyS)
  | (apply h_lenL 0; (case h => assumption); (case e => with_unfolding_all rfl))
  | (apply h_lenL 1; (case h => assumption); (case e => with_unfolding_all rfl))
  | (apply h_lenL 2; (case h => assumption); (case e => with_unfolding_all rfl))
  | (apply h_lenL 3; (case h => assumption); (case e => with_unfolding_all rfl))
  | (apply h_lenL 4; (case h => assumption); (case e => with_unfolding_all rfl))
  | (apply h_lenD 0; (case h => assumption); (case e => with_unfolding_all rfl))
  | (apply h_lenD 1; (case h => assumption); (case e => with_unfolding_all rfl))
  | (apply h_lenD 2; (case h => assumption); (case e => with_unfolding_all rfl))
  | (apply h_lenD 3; (case h => assumption); (case e => with_unfolding_all rfl))
  | (apply h_lenD 4; (case h => assumption); (case e => with_unfolding_all rfl))
  | (apply h_setL 0; (case h => assumption); (case e => with_unfolding_all rfl); (case hs => (first | assumption | (apply Or.inl; assumption) | (apply Or.inr; simp))); (case hi => with_unfolding_all rfl))
  | (apply h_setL 1; (case h => assumption); (case e => with_unfolding_all rfl); (case hs => (first | assumption | (apply Or.inl; assumption) | (apply Or.inr; simp))); (case hi => with_unfolding_all rfl))
  | (apply h_setL 2; (case h => assumption); (case e => with_unfolding_all rfl); (case hs => (first | assumption | (apply Or.inl; assumption) | (apply Or.inr; simp))); (case hi => with_unfolding_all rfl))
  | (apply h_setL 3; (case h => assumption); (case e => with_unfolding_all rfl); (case hs => (first | assumption | (apply Or.inl; assumption) | (apply Or.inr; simp))); (case hi => with_unfolding_all rfl))
  | (apply h_setL 4; (case h => assumption); (case e => with_unfolding_all rfl); (case hs => (first | assumption | (apply Or.inl; assumption) | (apply Or.inr; simp))); (case hi => with_unfolding_all rfl))
  | (apply h_isLn 0; (case h => assumption); (case e => with_unfolding_all rfl))
  | (apply h_isLn 1; (case h => assumption); (case e => with_unfolding_all rfl))
  | (apply h_isLn 2; (case h => assumption); (case e => with_unfolding_all rfl))
  | (apply h_isLn 3; (case h => assumption); (case e => with_unfolding_all rfl))
  | (apply h_isLn 4; (case h => assumption); (case e => with_unfolding_all rfl))
  | (apply h_isLd 0; (case h => assumption); (case e => with_unfolding_all rfl))
  | (apply h_isLd 1; (case h => assumption); (case e => with_unfolding_all rfl))
  | (apply h_isLd 2; (case h => assumption); (case e => with_unfolding_all rfl))
  | (apply h_isLd 3; (case h => assumption); (case e => with_unfolding_all rfl))
  | (apply h_isLd 4; (case h => assumption); (case e => with_unfolding_all rfl))
  | (apply h_isT; (case h => (first | apply Im.int | apply Im.str | apply Im.bl | apply Im.non | assumption | (apply h_imm 0; (case h => assumption); (case e => with_unfolding_all rfl)) | (apply h_imm 1; (case h => assumption); (case e => with_unfolding_all rfl)) | (apply h_imm 2; (case h => assumption); (case e => with_unfolding_all rfl)) | (apply h_imm 3; (case h => assumption); (case e => with_unfolding_all rfl)) | (apply h_imm 4; (case h => assumption); (case e => with_unfolding_all rfl)) | (apply h_imm 5; (case h => assumption); (case e => with_unfolding_all rfl)))))
  | (apply h_tupOf 0; (case h => assumption); (case e => with_unfolding_all rfl))
  | (apply h_tupOf 1; (case h => assumption); (case e => with_unfolding_all rfl))
  | (apply h_tupOf 2; (case h => assumption); (case e => with_unfolding_all rfl))
  | (apply h_tupOf 3; (case h => assumption); (case e => with_unfolding_all rfl))
  | (apply h_tupOf 4; (case h => assumption); (case e => with_unfolding_all rfl))
  | (apply h_listOf 0; (case h => assumption); (case e => with_unfolding_all rfl))
  | (apply h_listOf 1; (case h => assumption); (case e => with_unfolding_all rfl))
  | (apply h_listOf 2; (case h => assumption); (case e => with_unfolding_all rfl))
  | (apply h_listOf 3; (case h => assumption); (case e => with_unfolding_all rfl))
  | (apply h_listOf 4; (case h => assumption); (case e => with_unfolding_all rfl))
  | (apply h_lst; (case h => assumption); (case z => (rw [sizeLine_eq]; ((try simp only [List.length_append, List.length_cons, List.length_nil, List.length_map, List.length_replicate, List.length_set, List.length_take, List.length_drop]) <;> omega))))
  | (apply h_tup; (case h => assumption); (case z => (rw [sizeLine_eq]; ((try simp only [List.length_append, List.length_cons, List.length_nil, List.length_map, List.length_replicate, List.length_set, List.length_take, List.length_drop]) <;> omega))); (case hd => repeat (first | apply Ims.nil | (apply Ims.cons; (focus (first | apply Im.int | apply Im.str | apply Im.bl | apply Im.non | assumption | (apply h_imm 0; (case h => assumption); (case e => with_unfolding_all rfl)) | (apply h_imm 1; (case h => assumption); (case e => with_unfolding_all rfl)) | (apply h_imm 2; (case h => assumption); (case e => with_unfolding_all rfl)) | (apply h_imm 3; (case h => assumption); (case e => with_unfolding_all rfl)) | (apply h_imm 4; (case h => assumption); (case e => with_unfolding_all rfl)) | (apply h_imm 5; (case h => assumption); (case e => with_unfolding_all rfl))))))))
  | (apply And.intro; (case left => (first | decide | omega | (simp only [List.length_map, List.length_append, List.length_take, List.length_drop, List.length_set]; omega))))
  | (apply h_mr; (case h1 => (first | decide | omega | (simp only [List.length_map, List.length_append, List.length_take, List.length_drop, List.length_set]; omega))); (case h2 => (first | decide | omega | (simp only [List.length_map, List.length_append, List.length_take, List.length_drop, List.length_set]; omega))))
  | (apply h_ml; (case h1 => (first | decide | omega | (simp only [List.length_map, List.length_append, List.length_take, List.length_drop, List.length_set]; omega))); (case h2 => (first | decide | omega | (simp only [List.length_map, List.length_append, List.length_take, List.length_drop, List.length_set]; omega))))
  | (apply h_dv; (case h1 => (first | decide | omega | (simp only [List.length_map, List.length_append, List.length_take, List.length_drop, List.length_set]; omega))); (case h2 => (first | decide | omega | (simp only [List.length_map, List.length_append, List.length_take, List.length_drop, List.length_set]; omega))))
  | (apply h_pw; (case h1 => (first | decide | omega | (simp only [List.length_map, List.length_append, List.length_take, List.length_drop, List.length_set]; omega))); (case h2 => (first | decide | omega | (simp only [List.length_map, List.length_append, List.length_take, List.length_drop, List.length_set]; omega))); (case h3 => decide))
  | (apply And.intro; (case left => (rw [sizeLine_eq]; ((try simp only [List.length_append, List.length_cons, List.length_nil, List.length_map, List.length_replicate, List.length_set, List.length_take, List.length_drop]) <;> omega))))
  | (apply h_wnum 0; (case h => assumption); (case e => with_unfolding_all rfl); (case h0 => (first | decide | omega | (simp only [List.length_map, List.length_append, List.length_take, List.length_drop, List.length_set]; omega))); (case h1 => (first | decide | omega | (simp only [List.length_map, List.length_append, List.length_take, List.length_drop, List.length_set]; omega))); (case h2 => (first | decide | omega | (simp only [List.length_map, List.length_append, List.length_take, List.length_drop, List.length_set]; omega))); (case h3 => (first | decide | omega | (simp only [List.length_map, List.length_append, List.length_take, List.length_drop, List.length_set]; omega))))
  | (apply h_wnum 1; (case h => assumption); (case e => with_unfolding_all rfl); (case h0 => (first | decide | omega | (simp only [List.length_map, List.length_append, List.length_take, List.length_drop, List.length_set]; omega))); (case h1 => (first | decide | omega | (simp only [List.length_map, List.length_append, List.length_take, List.length_drop, List.length_set]; omega))); (case h2 => (first | decide | omega | (simp only [List.length_map, List.length_append, List.length_take, List.length_drop, List.length_set]; omega))); (case h3 => (first | decide | omega | (simp only [List.length_map, List.length_append, List.length_take, List.length_drop, List.length_set]; omega))))
  | (apply h_wnum 2; (case h => assumption); (case e => with_unfolding_all rfl); (case h0 => (first | decide | omega | (simp only [List.length_map, List.length_append, List.length_take, List.length_drop, List.length_set]; omega))); (case h1 => (first | decide | omega | (simp only [List.length_map, List.length_append, List.length_take, List.length_drop, List.length_set]; omega))); (case h2 => (first | decide | omega | (simp only [List.length_map, List.length_append, List.length_take, List.length_drop, List.length_set]; omega))); (case h3 => (first | decide | omega | (simp only [List.length_map, List.length_append, List.length_take, List.length_drop, List.length_set]; omega))))
  | (apply h_rdword 0; (case h => assumption); (case e => with_unfolding_all rfl); (case h0 => (first | decide | omega | (simp only [List.length_map, List.length_append, List.length_take, List.length_drop, List.length_set]; omega))); (case h1 => (first | decide | omega | (simp only [List.length_map, List.length_append, List.length_take, List.length_drop, List.length_set]; omega))); (case h2 => (first | decide | omega | (simp only [List.length_map, List.length_append, List.length_take, List.length_drop, List.length_set]; omega))); (case h3 => (first | decide | omega | (simp only [List.length_map, List.length_append, List.length_take, List.length_drop, List.length_set]; omega))))
  | (apply h_rdword 1; (case h => assumption); (case e => with_unfolding_all rfl); (case h0 => (first | decide | omega | (simp only [List.length_map, List.length_append, List.length_take, List.length_drop, List.length_set]; omega))); (case h1 => (first | decide | omega | (simp only [List.length_map, List.length_append, List.length_take, List.length_drop, List.length_set]; omega))); (case h2 => (first | decide | omega | (simp only [List.length_map, List.length_append, List.length_take, List.length_drop, List.length_set]; omega))); (case h3 => (first | decide | omega | (simp only [List.length_map, List.length_append, List.length_take, List.length_drop, List.length_set]; omega))))
  | (apply h_rdword 2; (case h => assumption); (case e => with_unfolding_all rfl); (case h0 => (first | decide | omega | (simp only [List.length_map, List.length_append, List.length_take, List.length_drop, List.length_set]; omega))); (case h1 => (first | decide | omega | (simp only [List.length_map, List.length_append, List.length_take, List.length_drop, List.length_set]; omega))); (case h2 => (first | decide | omega | (simp only [List.length_map, List.length_append, List.length_take, List.length_drop, List.length_set]; omega))); (case h3 => (first | decide | omega | (simp only [List.length_map, List.length_append, List.length_take, List.length_drop, List.length_set]; omega))))
  | (apply h_rslot 0; (case h => assumption); (case e => with_unfolding_all rfl); (case h0 => (first | decide | omega | (simp only [List.length_map, List.length_append, List.length_take, List.length_drop, List.length_set]; omega))); (case h1 => (first | decide | omega | (simp only [List.length_map, List.length_append, List.length_take, List.length_drop, List.length_set]; omega))); (case h2 => (first | decide | omega | (simp only [List.length_map, List.length_append, List.length_take, List.length_drop, List.length_set]; omega))); (case h3 => (first | decide | omega | (simp only [List.length_map, List.length_append, List.length_take, List.length_drop, List.length_set]; omega))); (case h4 => (first | decide | omega | (simp only [List.length_map, List.length_append, List.length_take, List.length_drop, List.length_set]; omega))); (case h5 => (first | decide | omega | (simp only [List.length_map, List.length_append, List.length_take, List.length_drop, List.length_set]; omega))); (case h6 => (first | decide | omega | (simp only [List.length_map, List.length_append, List.length_take, List.length_drop, List.length_set]; omega))); (case h7 => (first | decide | omega | (simp only [List.length_map, List.length_append, List.length_take, List.length_drop, List.length_set]; omega))))
  | (apply h_rslot 1; (case h => assumption); (case e => with_unfolding_all rfl); (case h0 => (first | decide | omega | (simp only [List.length_map, List.length_append, List.length_take, List.length_drop, List.length_set]; omega))); (case h1 => (first | decide | omega | (simp only [List.length_map, List.length_append, List.length_take, List.length_drop, List.length_set]; omega))); (case h2 => (first | decide | omega | (simp only [List.length_map, List.length_append, List.length_take, List.length_drop, List.length_set]; omega))); (case h3 => (first | decide | omega | (simp only [List.length_map, List.length_append, List.length_take, List.length_drop, List.length_set]; omega))); (case h4 => (first | decide | omega | (simp only [List.length_map, List.length_append, List.length_take, List.length_drop, List.length_set]; omega))); (case h5 => (first | decide | omega | (simp only [List.length_map, List.length_append, List.length_take, List.length_drop, List.length_set]; omega))); (case h6 => (first | decide | omega | (simp only [List.length_map, List.length_append, List.length_take, List.length_drop, List.length_set]; omega))); (case h7 => (first | decide | omega | (simp only [List.length_map, List.length_append, List.length_take, List.length_drop, List.length_set]; omega))))
  | (apply h_rslot 2; (case h => assumption); (case e => with_unfolding_all rfl); (case h0 => (first | decide | omega | (simp only [List.length_map, List.length_append, List.length_take, List.length_drop, List.length_set]; omega))); (case h1 => (first | decide | omega | (simp only [List.length_map, List.length_append, List.length_take, List.length_drop, List.length_set]; omega))); (case h2 => (first | decide | omega | (simp only [List.length_map, List.length_append, List.length_take, List.length_drop, List.length_set]; omega))); (case h3 => (first | decide | omega | (simp only [List.length_map, List.length_append, List.length_take, List.length_drop, List.length_set]; omega))); (case h4 => (first | decide | omega | (simp only [List.length_map, List.length_append, List.length_take, List.length_drop, List.length_set]; omega))); (case h5 => (first | decide | omega | (simp only [List.length_map, List.length_append, List.length_take, List.length_drop, List.length_set]; omega))); (case h6 => (first | decide | omega | (simp only [List.length_map, List.length_append, List.length_take, List.length_drop, List.length_set]; omega))); (case h7 => (first | decide | omega | (simp only [List.length_map, List.length_append, List.length_take, List.length_drop, List.length_set]; omega))))
  | (apply h_put 0; (case h => assumption); (case e => with_unfolding_all rfl); (case h0 => (first | decide | omega | (simp only [List.length_map, List.length_append, List.length_take, List.length_drop, List.length_set]; omega))); (case h1 => (first | decide | omega | (simp only [List.length_map, List.length_append, List.length_take, List.length_drop, List.length_set]; omega))); (case h2 => (first | decide | omega | (simp only [List.length_map, List.length_append, List.length_take, List.length_drop, List.length_set]; omega))); (case h3 => (first | decide | omega | (simp only [List.length_map, List.length_append, List.length_take, List.length_drop, List.length_set]; omega))); (case hs => (first | assumption | (apply Or.inl; assumption) | (apply Or.inr; simp))))
  | (apply h_put 1; (case h => assumption); (case e => with_unfolding_all rfl); (case h0 => (first | decide | omega | (simp only [List.length_map, List.length_append, List.length_take, List.length_drop, List.length_set]; omega))); (case h1 => (first | decide | omega | (simp only [List.length_map, List.length_append, List.length_take, List.length_drop, List.length_set]; omega))); (case h2 => (first | decide | omega | (simp only [List.length_map, List.length_append, List.length_take, List.length_drop, List.length_set]; omega))); (case h3 => (first | decide | omega | (simp only [List.length_map, List.length_append, List.length_take, List.length_drop, List.length_set]; omega))); (case hs => (first | assumption | (apply Or.inl; assumption) | (apply Or.inr; simp))))
  | (apply h_put 2; (case h => assumption); (case e => with_unfolding_all rfl); (case h0 => (first | decide | omega | (simp only [List.length_map, List.length_append, List.length_take, List.length_drop, List.length_set]; omega))); (case h1 => (first | decide | omega | (simp only [List.length_map, List.length_append, List.length_take, List.length_drop, List.length_set]; omega))); (case h2 => (first | decide | omega | (simp only [List.length_map, List.length_append, List.length_take, List.length_drop, List.length_set]; omega))); (case h3 => (first | decide | omega | (simp only [List.length_map, List.length_append, List.length_take, List.length_drop, List.length_set]; omega))); (case hs => (first | assumption | (apply Or.inl; assumption) | (apply Or.inr; simp))))
  | (apply h_wrword 0; (case h => assumption); (case e => with_unfolding_all rfl); (case h0 => (first | decide | omega | (simp only [List.length_map, List.length_append, List.length_take, List.length_drop, List.length_set]; omega))); (case h1 => (first | decide | omega | (simp only [List.length_map, List.length_append, List.length_take, List.length_drop, List.length_set]; omega))); (case h2 => (first | decide | omega | (simp only [List.length_map, List.length_append, List.length_take, List.length_drop, List.length_set]; omega))); (case h3 => (first | decide | omega | (simp only [List.length_map, List.length_append, List.length_take, List.length_drop, List.length_set]; omega))); (case hs => (first | assumption | (apply Or.inl; assumption) | (apply Or.inr; simp))))
  | (apply h_wrword 1; (case h => assumption); (case e => with_unfolding_all rfl); (case h0 => (first | decide | omega | (simp only [List.length_map, List.length_append, List.length_take, List.length_drop, List.length_set]; omega))); (case h1 => (first | decide | omega | (simp only [List.length_map, List.length_append, List.length_take, List.length_drop, List.length_set]; omega))); (case h2 => (first | decide | omega | (simp only [List.length_map, List.length_append, List.length_take, List.length_drop, List.length_set]; omega))); (case h3 => (first | decide | omega | (simp only [List.length_map, List.length_append, List.length_take, List.length_drop, List.length_set]; omega))); (case hs => (first | assumption | (apply Or.inl; assumption) | (apply Or.inr; simp))))
  | (apply h_wrword 2; (case h => assumption); (case e => with_unfolding_all rfl); (case h0 => (first | decide | omega | (simp only [List.length_map, List.length_append, List.length_take, List.length_drop, List.length_set]; omega))); (case h1 => (first | decide | omega | (simp only [List.length_map, List.length_append, List.length_take, List.length_drop, List.length_set]; omega))); (case h2 => (first | decide | omega | (simp only [List.length_map, List.length_append, List.length_take, List.length_drop, List.length_set]; omega))); (case h3 => (first | decide | omega | (simp only [List.length_map, List.length_append, List.length_take, List.length_drop, List.length_set]; omega))); (case hs => (first | assumption | (apply Or.inl; assumption) | (apply Or.inr; simp))))
  | (apply h_power; (case h0 => (first | decide | omega | (simp only [List.length_map, List.length_append, List.length_take, List.length_drop, List.length_set]; omega))); (case h1 => (first | decide | omega | (simp only [List.length_map, List.length_append, List.length_take, List.length_drop, List.length_set]; omega))))
  | (apply h_bounds; (case h => assumption); (case h0 => (first | decide | omega | (simp only [List.length_map, List.length_append, List.length_take, List.length_drop, List.length_set]; omega))); (case h1 => (first | decide | omega | (simp only [List.length_map, List.length_append, List.length_take, List.length_drop, List.length_set]; omega))))
  | (apply h_sl2 0; (case h => assumption); (case e => with_unfolding_all rfl); (case hi => (first | decide | omega | (simp only [List.length_map, List.length_append, List.length_take, List.length_drop, List.length_set]; omega))); (case hj => (first | decide | omega | (simp only [List.length_map, List.length_append, List.length_take, List.length_drop, List.length_set]; omega))))
  | (apply h_sl2 1; (case h => assumption); (case e => with_unfolding_all rfl); (case hi => (first | decide | omega | (simp only [List.length_map, List.length_append, List.length_take, List.length_drop, List.length_set]; omega))); (case hj => (first | decide | omega | (simp only [List.length_map, List.length_append, List.length_take, List.length_drop, List.length_set]; omega))))
  | (apply h_sl2 2; (case h => assumption); (case e => with_unfolding_all rfl); (case hi => (first | decide | omega | (simp only [List.length_map, List.length_append, List.length_take, List.length_drop, List.length_set]; omega))); (case hj => (first | decide | omega | (simp only [List.length_map, List.length_append, List.length_take, List.length_drop, List.length_set]; omega))))
  | (apply h_slp 0; (case h => assumption); (case e => with_unfolding_all rfl); (case hj => (first | decide | omega | (simp only [List.length_map, List.length_append, List.length_take, List.length_drop, List.length_set]; omega))))
  | (apply h_slp 1; (case h => assumption); (case e => with_unfolding_all rfl); (case hj => (first | decide | omega | (simp only [List.length_map, List.length_append, List.length_take, List.length_drop, List.length_set]; omega))))
  | (apply h_slp 2; (case h => assumption); (case e => with_unfolding_all rfl); (case hj => (first | decide | omega | (simp only [List.length_map, List.length_append, List.length_take, List.length_drop, List.length_set]; omega))))
  | (apply h_sls 0; (case h => assumption); (case e => with_unfolding_all rfl); (case hi => (first | decide | omega | (simp only [List.length_map, List.length_append, List.length_take, List.length_drop, List.length_set]; omega))))
  | (apply h_sls 1; (case h => assumption); (case e => with_unfolding_all rfl); (case hi => (first | decide | omega | (simp only [List.length_map, List.length_append, List.length_take, List.length_drop, List.length_set]; omega))))
  | (apply h_sls 2; (case h => assumption); (case e => with_unfolding_all rfl); (case hi => (first | decide | omega | (simp only [List.length_map, List.length_append, List.length_take, List.length_drop, List.length_set]; omega))))
  | (apply h_reverse 0; (case h => assumption); (case e => with_unfolding_all rfl); (case hs => (first | assumption | (apply Or.inl; assumption) | (apply Or.inr; simp))))
  | (apply h_reverse 1; (case h => assumption); (case e => with_unfolding_all rfl); (case hs => (first | assumption | (apply Or.inl; assumption) | (apply Or.inr; simp))))
  | (apply h_reverse 2; (case h => assumption); (case e => with_unfolding_all rfl); (case hs => (first | assumption | (apply Or.inl; assumption) | (apply Or.inr; simp))))) | with_reducible intro))

def t__law_same (K : PySem.W.Frag) (A : Ad) : TS :=
  (tRet (tOp (mEq K) (tCB (hRepr K) (tCons (mV 0) tNil)) (tCB (hRepr K) (tCons (mV 1) tNil))))
theorem rd__law_same {K : PySem.W.Frag} {A : Ad} {vs : List V} {H : Hp} {Q : VK} {E : XK} (h : sp__law_same K A vs H Q E) : t__law_same K A { nx := fun _ H' => Q .non H', rt := Q } (start ["_law_actual", "_law_due"] vs) H := by
  obtain ⟨x, y, d, n, W, rfl, hx, hy, hs, h1, h2, k⟩ := h
  show t__law_same K A _ [some x, some y] H
  unfold t__law_same
  walk_at "gs"
  refine h_repr hx hs ?_ h1 h2
  walk_at "gs"
  refine h_repr hy hs ?_ h1 h2
  walk_at "gs"
  rw [eqS_t rfl]
  exact k

section
variable {K : PySem.W.Frag} {H0 H : Hp} {S : List Addr} {I : List (V × PyData)} {L A T : List (Addr × Ent)}
theorem Led.memL (h : Led K H0 S H L I) {L' : List (Addr × Ent)} (hn : (L'.map (·.1)).Nodup) (hm : ∀ e ∈ L', e ∈ L) : Led K H0 S H L' I :=
  ⟨hn, fun n a e q => by
    obtain ⟨i, hi, hi2⟩ := List.getElem_of_mem (hm (a, e) (List.mem_of_getElem? q))
    exact h.at_ i a e (by rw [List.getElem?_eq_getElem hi, hi2]), h.im, h.kp⟩
theorem Led.perm (h : Led K H0 S H L I) {L' : List (Addr × Ent)} (p : L.Perm L') : Led K H0 S H L' I :=
  h.memL ((p.map _).nodup_iff.mp h.nd) fun e he => p.mem_iff.mpr he
theorem Led.pickT (h : Led K H0 S H (A ++ T) I) (f : List Nat) (hf : f.Nodup := by decide) (hb : (f.all fun n => decide (n < A.length)) = true := by rfl) : Led K H0 S H (pickL f A ++ T) I := by
  have hb' : ∀ n ∈ f, n < A.length := fun n hn => of_decide_eq_true (List.all_eq_true.mp hb n hn)
  have mem : ∀ e ∈ pickL f A, e ∈ A := fun e he => by
    obtain ⟨n, hn, rfl⟩ := List.mem_map.mp he
    rw [List.getElem?_eq_getElem (hb' n hn)]
    exact List.getElem_mem _
  refine h.memL ?_ fun e he => ?_
  · have q := h.nd
    rw [List.map_append] at q ⊢
    obtain ⟨q1, q2, q3⟩ := List.nodup_append.mp q
    refine List.nodup_append.mpr ⟨((h.pre [] [] fun n v d z => by simp at z).pick f hf hb).nd, q2, fun a ha b hb2 => ?_⟩
    obtain ⟨e, he, rfl⟩ := List.mem_map.mp ha
    exact q3 _ (List.mem_map.mpr ⟨e, mem e he, rfl⟩) b hb2
  · rcases List.mem_append.mp he with he | he
    · exact List.mem_append_left _ (mem e he)
    · exact List.mem_append_right _ he
theorem Led.hd (h : Led K H0 S H (A ++ T) I) : Led K H0 S H A I :=
  h.memL (by have q := h.nd; rw [List.map_append] at q; exact (List.nodup_append.mp q).1) fun e he => List.mem_append_left _ he
theorem Led.sub (h : Led K H0 S H L I) {L' : List (Addr × Ent)} (s : L'.Sublist L) : Led K H0 S H L' I :=
  h.memL ((s.map _).nodup h.nd) fun e he => s.subset he
theorem Led.of (h : Led K H0 S H L I) {a : Addr} {o : HO} (hm : (a, Ent.raw o) ∈ L) : H a = some o := by
  obtain ⟨i, hi, hi2⟩ := List.getElem_of_mem hm
  exact h.raw i (by rw [List.getElem?_eq_getElem hi, hi2])
end
/-! ### pieces shared with the blocks' texts -/
theorem Led.same0 {K : PySem.W.Frag} {H0 H : Hp} {L : List (Addr × Ent)} {I : List (V × PyData)} (h : Led K H0 [] H L I) : Same H0 H := fun a o q => h.kp a o q (fun z => nomatch z)
theorem el0 {H : Hp} {p : Addr} (z : H p = none ∨ p ∈ []) : H p = none := z.elim id fun z => nomatch z
theorem Led.trans {K : PySem.W.Frag} {H0 H H' : Hp} {S S1 : List Addr} {I I1 : List (V × PyData)} {L L1 : List (Addr × Ent)} (h : Led K H0 S H L I) (c : Led K H S1 H' L1 I1) (hS : ∀ b ∈ S1, H0 b = none ∨ b ∈ S) : Led K H0 S H' L1 I1 :=
  ⟨c.nd, c.at_, c.im, fun b o q hb => c.kp b o (h.kp b o q hb) fun hb1 => by
    rcases hS b hb1 with z | z
    · rw [z] at q
      exact nomatch q
    · exact hb z⟩

/-! ### the journal -/
def forms : List (Str × Str) := [("create", "ti"), ("put", "iti"), ("select", "itT"), ("push", "itI"), ("pop", "it"), ("delete", "i"), ("upgrade", "ii"), ("grow", "i"), ("push_together", ""),
  ("checkpoint", ""), ("back", ""), ("commit", ""), ("device", ""), ("lease", "iitb"), ("release", "i"), ("begin", "ititIIT"), ("step", "i"), ("abort", "i")]
def formsD : PyData := .tuple (forms.map fun r => .tuple [.str r.1, .str r.2])
def sgs (x : Str) : List Int := x.cps.toList.map fun c => ((c : Nat) : Int)
def okS (c : Nat) : Bool := c == 10 || (decide (32 ≤ c) && (decide (c ≤ 126) && c != 37))
def okT (x : Str) : Prop := ∀ c ∈ x.cps.toList, okS c = true
def absI (i : Int) : Int := if i < 0 then -i else i
def encI (i : Int) : List Int := (if i < 0 then 1 else 0) :: dg 256 4 (absI i)
def encA (k : Nat) : V → List Int
  | .bl b => [if b = true then 1 else 0]
  | .int i => encI i
  | .str x => ((x.cps.size : Nat) : Int) :: sgs x
  | _ => [if k = 84 then 255 else 2]
def okA (k : Nat) : V → Prop
  | .bl _ => k = 98
  | .int i => (k = 105 ∨ k = 73) ∧ -(2 ^ 32) < i ∧ i < 2 ^ 32
  | .str x => (k = 116 ∨ k = 84) ∧ x.cps.size ≤ 100 ∧ okT x
  | .non => k = 73 ∨ k = 84
  | _ => False
def encAs : List Nat → List V → List Int
  | k :: ks, v :: vs => encA k v ++ encAs ks vs
  | _, _ => []
def okAs : List Nat → List V → Prop
  | [], [] => True
  | k :: ks, v :: vs => okA k v ∧ okAs ks vs
  | _, _ => False
def two (n : Nat) : List Int := [((n % 256 : Nat) : Int), ((n / 256 : Nat) : Int)]
def ent (c : List Int) : List Int := two c.length ++ c
/-- name and arguments and the numbers of their entry's content -/
inductive Cont : Str → List V → List Int → Prop
  | start (size : Nat) (x : Str) (h : size < 65536) (hx : x.cps.size ≤ 1000) (ok : okT x) : Cont "start" [.int size, .str x] (0 :: (two size ++ sgs x))
  | call (i : Nat) (n ks : Str) (vs : List V) (e : forms[i]? = some (n, ks)) (ok : okAs ks.cps.toList vs) : Cont n vs (((i + 1 : Nat) : Int) :: encAs ks.cps.toList vs)
def vD : V → PyData
  | .bl b => .bool b
  | .int i => .int i
  | .str x => .str x
  | _ => .none
theorem okAs_len : ∀ {ks : List Nat} {vs : List V}, okAs ks vs → vs.length = ks.length
  | [], [], _ => rfl
  | _ :: _, _ :: _, h => by
    rw [List.length_cons, List.length_cons, okAs_len h.2]
  | [], _ :: _, h => h.elim
  | _ :: _, [], h => h.elim
theorem okAs_get : ∀ {ks : List Nat} {vs : List V} {i k : Nat}, okAs ks vs → ks[i]? = some k → ∃ v, vs[i]? = some v ∧ okA k v
  | [], _, _, _, _, e => by simp at e
  | _ :: _, [], _, _, h, _ => h.elim
  | k :: ks, v :: vs, 0, _, h, e => by
    cases e
    exact ⟨v, rfl, h.1⟩
  | k :: ks, v :: vs, i + 1, _, h, e => okAs_get (i := i) h.2 e
theorem encAs_take : ∀ {ks : List Nat} {vs : List V} {i k : Nat} {v : V}, okAs ks vs → ks[i]? = some k → vs[i]? = some v → encAs (ks.take (i + 1)) (vs.take (i + 1)) = encAs (ks.take i) (vs.take i) ++ encA k v
  | [], _, _, _, _, _, e, _ => by simp at e
  | _ :: _, [], _, _, _, h, _, _ => h.elim
  | k :: ks, v :: vs, 0, _, _, h, e, e2 => by
    cases e
    cases e2
    show encA k v ++ encAs [] [] = [] ++ encA k v
    rw [List.nil_append]
    exact List.append_nil _
  | k :: ks, v :: vs, i + 1, _, _, h, e, e2 => by
    show encA k v ++ encAs (ks.take (i + 1)) (vs.take (i + 1)) = encA k v ++ encAs (ks.take i) (vs.take i) ++ _
    rw [encAs_take (i := i) h.2 e e2, List.append_assoc]
theorem encAs_split : ∀ {ks : List Nat} {vs : List V} {i : Nat}, okAs ks vs → encAs ks vs = encAs (ks.take i) (vs.take i) ++ encAs (ks.drop i) (vs.drop i)
  | [], [], i, _ => by simp [encAs]
  | [], _ :: _, _, h => h.elim
  | _ :: _, [], _, h => h.elim
  | k :: ks, v :: vs, 0, _ => rfl
  | k :: ks, v :: vs, i + 1, h => by
    show encA k v ++ encAs ks vs = encA k v ++ encAs (ks.take i) (vs.take i) ++ encAs (ks.drop i) (vs.drop i)
    rw [List.append_assoc, ← encAs_split (i := i) h.2]
theorem encI_len (i : Int) : (encI i).length = 5 := by
  unfold encI
  rw [List.length_cons, dg_len]
theorem encA_len {k : Nat} {v : V} (h : okA k v) : 1 ≤ (encA k v).length ∧ (encA k v).length ≤ 101 := by
  cases v with
  | int i => exact ⟨by show 1 ≤ (encI i).length; rw [encI_len]; decide, by show (encI i).length ≤ 101; rw [encI_len]; decide⟩
  | str x =>
    have h2 : x.cps.size ≤ 100 := h.2.1
    have e : (encA k (.str x)).length = x.cps.size + 1 := by
      show (_ :: sgs x).length = _
      unfold sgs
      rw [List.length_cons, List.length_map, Array.length_toList]
    rw [e]
    omega
  | bl b => exact ⟨Nat.le_refl 1, Nat.le_of_ble_eq_true rfl⟩
  | non => exact ⟨Nat.le_refl 1, Nat.le_of_ble_eq_true rfl⟩
  | byt b => exact h.elim
  | flt b => exact h.elim
  | ref a => exact h.elim
  | ty t => exact h.elim
theorem encAs_len : ∀ {ks : List Nat} {vs : List V}, okAs ks vs → (encAs ks vs).length ≤ 101 * ks.length
  | [], [], _ => Nat.le_refl _
  | [], _ :: _, h => h.elim
  | _ :: _, [], h => h.elim
  | k :: ks, v :: vs, h => by
    show (encA k v ++ encAs ks vs).length ≤ _
    rw [List.length_append, List.length_cons]
    have := (encA_len h.1).2
    have := encAs_len h.2
    omega
theorem forms_kinds {i : Nat} {n ks : Str} (h : forms[i]? = some (n, ks)) : i < 18 ∧ ks.cps.toList.length ≤ 7 ∧ n ≠ "start" := by
  have hi : i < 18 := (List.getElem?_eq_some_iff.mp h).1
  refine ⟨hi, ?_⟩
  have key : ∀ r ∈ forms, r.2.cps.toList.length ≤ 7 ∧ r.1 ≠ "start" := by decide +kernel
  exact key _ (List.mem_of_getElem? h)
theorem Cont.len {n : Str} {vs : List V} {c : List Int} (h : Cont n vs c) : 1 ≤ c.length ∧ c.length ≤ 1100 := by
  cases h with
  | start size x h hx ok =>
    have e : (0 :: (two size ++ sgs x)).length = 3 + x.cps.size := by
      unfold sgs two
      simp only [List.length_cons, List.length_append, List.length_map, Array.length_toList, List.length_nil]
      omega
    rw [e]
    omega
  | call i n ks vs e ok =>
    have h1 := encAs_len ok
    have h2 := (forms_kinds e).2.1
    rw [List.length_cons]
    omega
/-! ### the promises of the writing -/
def sp_two_numbers (K : PySem.W.Frag) (A : Ad) : Sp := fun vs H Q _ => ∃ n : Nat, vs = [.int n] ∧ n < 65536 * 256 ∧ ∀ p H', Same H H' → H p = none → H' p = some (.lst ((two n).map V.int)) → Q (.ref p) H'
def sp_write_integer (K : PySem.W.Frag) (A : Ad) : Sp := fun vs H Q _ => ∃ i : Int, vs = [.int i] ∧ -(2 ^ 32) < i ∧ i < 2 ^ 32 ∧ ∀ p H', Same H H' → H p = none → H' p = some (.lst ((encI i).map V.int)) → Q (.ref p) H'
def sp_write_characters (K : PySem.W.Frag) (A : Ad) : Sp := fun vs H Q _ => ∃ x : Str, vs = [.str x] ∧ x.cps.size ≤ 1000 ∧ ∀ p H', Same H H' → H p = none → H' p = some (.lst ((sgs x).map V.int)) → Q (.ref p) H'
def sp_write_argument (K : PySem.W.Frag) (A : Ad) : Sp := fun vs H Q _ => ∃ (k : Nat) (v : V), vs = [.str ⟨#[k]⟩, v] ∧ okA k v ∧ ∀ p H', Same H H' → H p = none → H' p = some (.lst ((encA k v).map V.int)) → Q (.ref p) H'
def sp_write_content (K : PySem.W.Frag) (A : Ad) : Sp := fun vs H Q _ => ∃ (n : Str) (a : Addr) (us : List V) (c : List Int), vs = [.str n, .ref a] ∧ SqT K H a us ∧ Cont n us c ∧ ∀ p H', Same H H' → H p = none → H' p = some (.lst (c.map V.int)) → Q (.ref p) H'
def sp_write_entry (K : PySem.W.Frag) (A : Ad) : Sp := fun vs H Q _ => ∃ (n : Str) (a : Addr) (us : List V) (c : List Int), vs = [.str n, .ref a] ∧ SqT K H a us ∧ Cont n us c ∧ ∀ p H', Same H H' → H p = none → H' p = some (.lst ((ent c).map V.int)) → Q (.ref p) H'
/-! ### the reader -/
def rdF (nu : Addr) (t : V) : List (Str × V) := [("numbers", .ref nu), ("at", t)]
section
variable {nu : Addr} {t u : V}
theorem Rd_numbers : (rdF nu t).lookup ("numbers" : Str) = some (V.ref nu) := by kernel_rfl
theorem Rd_at : (rdF nu t).lookup ("at" : Str) = some t := by kernel_rfl
theorem Rd_new_numbers : putF ("numbers" : Str) (.ref nu) [] = [(("numbers" : Str), V.ref nu)] := by kernel_rfl
theorem Rd_new_at : putF ("at" : Str) t [(("numbers" : Str), V.ref nu)] = rdF nu t := by kernel_rfl
theorem Rd_put_at : putF ("at" : Str) u (rdF nu t) = rdF nu u := by kernel_rfl
theorem Rd_no_next : (rdF nu t).lookup ("next" : Str) = none := by kernel_rfl
theorem Rd_no_integer : (rdF nu t).lookup ("integer" : Str) = none := by kernel_rfl
theorem Rd_no_character : (rdF nu t).lookup ("character" : Str) = none := by kernel_rfl
theorem Rd_no_characters : (rdF nu t).lookup ("characters" : Str) = none := by kernel_rfl
theorem Rd_no_argument : (rdF nu t).lookup ("argument" : Str) = none := by kernel_rfl
end

local macro_rules | `(tactic| walk_at "im") => `(tactic| (first | apply Im.int | apply Im.str | apply Im.bl | apply Im.non | assumption | (apply h_imm 0; (case h => assumption); (case e => with_unfolding_all rfl)) | (apply h_imm 1; (case h => assumption); (case e => with_unfolding_all rfl)) | (apply h_imm 2; (case h => assumption); (case e => with_unfolding_all rfl)) | (apply h_imm 3; (case h => assumption); (case e => with_unfolding_all rfl)) | (apply h_imm 4; (case h => assumption); (case e => with_unfolding_all rfl)) | (apply h_imm 5; (case h => assumption); (case e => with_unfolding_all rfl))))
local macro_rules | `(tactic| walk_at "ims") => `(tactic| repeat (first | apply Ims.nil | (apply Ims.cons; (focus (first | apply Im.int | apply Im.str | apply Im.bl | apply Im.non | assumption | (apply h_imm 0; (case h => assumption); (case e => with_unfolding_all rfl)) | (apply h_imm 1; (case h => assumption); (case e => with_unfolding_all rfl)) | (apply h_imm 2; (case h => assumption); (case e => with_unfolding_all rfl)) | (apply h_imm 3; (case h => assumption); (case e => with_unfolding_all rfl)) | (apply h_imm 4; (case h => assumption); (case e => with_unfolding_all rfl)) | (apply h_imm 5; (case h => assumption); (case e => with_unfolding_all rfl)))))))
local macro_rules | `(tactic| walk_at "sz") => `(tactic| (rw [sizeLine_eq]; ((try simp only [List.length_append, List.length_cons, List.length_nil, List.length_map, List.length_replicate, List.length_set, List.length_take, List.length_drop]) <;> omega)))
local macro_rules | `(tactic| walk_at "fr") => `(tactic| (first | assumption | (apply Or.inl; assumption) | (apply Or.inr; simp)))
local macro_rules | `(tactic| walk_at "ds") => `(tactic| dsimp only [a_lk0, a_lk1, a_lkS, a_V, a_vl, a_c, a_op, a_un, a_test, a_toB, a_tr, a_trB, a_trI, a_trN, a_and, a_or, a_not, a_andV, a_orV, a_notV, a_ifE, a_nil, a_cons, a_lst, a_tup, a_call, a_CB, a_BM, a_BM0, a_sl, a_part, a_partI, a_noPart, a_seq, a_next, a_brk, a_cont, a_asg, a_name, a_drop, a_ret, a_retN, a_if, a_aug, a_for, a_lc, a_jR1, a_jR2, a_jL, a_jT, a_rg1, a_rg2, a_gsub, a_yes, a_addI, a_addS, a_addR, a_iaddI, a_iaddS, a_sub, a_mulI, a_mulR, a_fdiv, a_mod, a_pow, a_shl, a_shr, a_lt, a_le, a_gt, a_ge, a_neg, a_EqI, a_EqS, a_EqB, a_EqNN, a_EqIN, a_EqNI, a_EqSN, a_EqNS, a_EqRR, a_EqRN, a_EqNR, a_NeI, a_NeS, a_NeB, a_NeNN, a_NeIN, a_NeNI, a_NeSN, a_NeNS, a_NeRR, a_NeRN, a_NeNR, a_isNN, a_isNI, a_isNS, a_isNB, a_isNR, a_notNN, a_notNI, a_notNS, a_notNB, a_notNR, a_intI, a_intB, a_abs, a_gnil, a_gcons, a_callS, a_raise0, a_tryAs, a_tryOnly, a_rev, a_jR3, a_fld, a_sfld, a_meth, a_methE, a_make, a_sfldaug, a_gslTo, a_join, a_anyI, a_jS, a_jES, a_xf, a_raiseX, a_lcW, wipe, List.set, List.nil_append, List.cons_append])
local macro_rules | `(tactic| walk_at "gs") => `(tactic| repeat (first | dsimp only [a_lk0, a_lk1, a_lkS, a_V, a_vl, a_c, a_op, a_un, a_test, a_toB, a_tr, a_trB, a_trI, a_trN, a_and, a_or, a_not, a_andV, a_orV, a_notV, a_ifE, a_nil, a_cons, a_lst, a_tup, a_call, a_CB, a_BM, a_BM0, a_sl, a_part, a_partI, a_noPart, a_seq, a_next, a_brk, a_cont, a_asg, a_name, a_drop, a_ret, a_retN, a_if, a_aug, a_for, a_lc, a_jR1, a_jR2, a_jL, a_jT, a_rg1, a_rg2, a_gsub, a_yes, a_addI, a_addS, a_addR, a_iaddI, a_iaddS, a_sub, a_mulI, a_mulR, a_fdiv, a_mod, a_pow, a_shl, a_shr, a_lt, a_le, a_gt, a_ge, a_neg, a_EqI, a_EqS, a_EqB, a_EqNN, a_EqIN, a_EqNI, a_EqSN, a_EqNS, a_EqRR, a_EqRN, a_EqNR, a_NeI, a_NeS, a_NeB, a_NeNN, a_NeIN, a_NeNI, a_NeSN, a_NeNS, a_NeRR, a_NeRN, a_NeNR, a_isNN, a_isNI, a_isNS, a_isNB, a_isNR, a_notNN, a_notNI, a_notNS, a_notNB, a_notNR, a_intI, a_intB, a_abs, a_gnil, a_gcons, a_callS, a_raise0, a_tryAs, a_tryOnly, a_rev, a_jR3, a_fld, a_sfld, a_meth, a_methE, a_make, a_sfldaug, a_gslTo, a_join, a_anyI, a_jS, a_jES, a_xf, a_raiseX, a_lcW, wipe, List.set, List.nil_append, List.cons_append] | with_reducible (first
  | (apply h_draw 0; (case h => assumption); (case e => with_unfolding_all rfl); (case e2 => with_unfolding_all rfl); (case h0 => (first | decide | omega | (simp only [List.length_map, List.length_append, List.length_take, List.length_drop, List.length_set]; omega))); (case h1 => (first | decide | omega | (simp only [List.length_map, List.length_append, List.length_take, List.length_drop, List.length_set]; omega))); (case h2 => (first | decide | omega | (simp only [List.length_map, List.length_append, List.length_take, List.length_drop, List.length_set]; omega))); (case hs => (first | assumption | (apply Or.inl; assumption) | (apply Or.inr; simp))))
  | (apply h_draw 1; (case h => assumption); (case e => with_unfolding_all rfl); (case e2 => with_unfolding_all rfl); (case h0 => (first | decide | omega | (simp only [List.length_map, List.length_append, List.length_take, List.length_drop, List.length_set]; omega))); (case h1 => (first | decide | omega | (simp only [List.length_map, List.length_append, List.length_take, List.length_drop, List.length_set]; omega))); (case h2 => (first | decide | omega | (simp only [List.length_map, List.length_append, List.length_take, List.length_drop, List.length_set]; omega))); (case hs => (first | assumption | (apply Or.inl; assumption) | (apply Or.inr; simp))))
  | (apply h_draw 2; (case h => assumption); (case e => with_unfolding_all rfl); (case e2 => with_unfolding_all rfl); (case h0 => (first | decide | omega | (simp only [List.length_map, List.length_append, List.length_take, List.length_drop, List.length_set]; omega))); (case h1 => (first | decide | omega | (simp only [List.length_map, List.length_append, List.length_take, List.length_drop, List.length_set]; omega))); (case h2 => (first | decide | omega | (simp only [List.length_map, List.length_append, List.length_take, List.length_drop, List.length_set]; omega))); (case hs => (first | assumption | (apply Or.inl; assumption) | (apply Or.inr; simp))))
  | (apply h_draw 3; (case h => assumption); (case e => with_unfolding_all rfl); (case e2 => with_unfolding_all rfl); (case h0 => (first | decide | omega | (simp only [List.length_map, List.length_append, List.length_take, List.length_drop, List.length_set]; omega))); (case h1 => (first | decide | omega | (simp only [List.length_map, List.length_append, List.length_take, List.length_drop, List.length_set]; omega))); (case h2 => (first | decide | omega | (simp only [List.length_map, List.length_append, List.length_take, List.length_drop, List.length_set]; omega))); (case hs => (first | assumption | (apply Or.inl; assumption) | (apply Or.inr; simp))))
  | (apply h_ixL 0; (case h => assumption); (case e => with_unfolding_all rfl); (case hx => with_unfolding_all rfl))
  | (apply h_ixL 1; (case h => assumption); (case e => with_unfolding_all rfl); (case hx => with_unfolding_all rfl))
  | (apply h_ixL 2; (case h => assumption); (case e => with_unfolding_all rfl); (case hx => with_unfolding_all rfl))
  | (apply h_ixL 3; (case h => assumption); (case e => with_unfolding_all rfl); (case hx => with_unfolding_all rfl))
  | (apply h_ixL 4; (case h => assumption); (case e => with_unfolding_all rfl); (case hx => with_unfolding_all rfl))
  | (apply h_ixTv; (case hd => (first | apply Im.int | apply Im.str | apply Im.bl | apply Im.non | assumption | (apply h_imm 0; (case h => assumption); (case e => with_unfolding_all rfl)) | (apply h_imm 1; (case h => assumption); (case e => with_unfolding_all rfl)) | (apply h_imm 2; (case h => assumption); (case e => with_unfolding_all rfl)) | (apply h_imm 3; (case h => assumption); (case e => with_unfolding_all rfl)) | (apply h_imm 4; (case h => assumption); (case e => with_unfolding_all rfl)) | (apply h_imm 5; (case h => assumption); (case e => with_unfolding_all rfl)))); (case h0 => (first | decide | omega | (simp only [List.length_map, List.length_append, List.length_take, List.length_drop, List.length_set]; omega))); (case hx => with_unfolding_all rfl); (case hv => with_unfolding_all rfl))
  | (apply h_slPre; (case h => assumption); (case hd => (first | apply Im.int | apply Im.str | apply Im.bl | apply Im.non | assumption | (apply h_imm 0; (case h => assumption); (case e => with_unfolding_all rfl)) | (apply h_imm 1; (case h => assumption); (case e => with_unfolding_all rfl)) | (apply h_imm 2; (case h => assumption); (case e => with_unfolding_all rfl)) | (apply h_imm 3; (case h => assumption); (case e => with_unfolding_all rfl)) | (apply h_imm 4; (case h => assumption); (case e => with_unfolding_all rfl)) | (apply h_imm 5; (case h => assumption); (case e => with_unfolding_all rfl)))); (case h0 => (first | decide | omega | (simp only [List.length_map, List.length_append, List.length_take, List.length_drop, List.length_set]; omega))))
  | (apply h_gtupV; (case h => (first | apply Im.int | apply Im.str | apply Im.bl | apply Im.non | assumption | (apply h_imm 0; (case h => assumption); (case e => with_unfolding_all rfl)) | (apply h_imm 1; (case h => assumption); (case e => with_unfolding_all rfl)) | (apply h_imm 2; (case h => assumption); (case e => with_unfolding_all rfl)) | (apply h_imm 3; (case h => assumption); (case e => with_unfolding_all rfl)) | (apply h_imm 4; (case h => assumption); (case e => with_unfolding_all rfl)) | (apply h_imm 5; (case h => assumption); (case e => with_unfolding_all rfl)))); (case hn => with_unfolding_all rfl); (case hv => with_unfolding_all rfl))
  | (apply h_isiB)
  | (apply h_eqr)
  | (apply iteT)
  | (apply h_nT)
  | (apply h_nF)
  | (apply iteF)
  | (apply h_brT)
  | (apply h_brF)
  | (apply h_brET)
  | (apply h_brEF)
  | (apply h_brNT)
  | (apply h_brNF)
  | (apply h_append 0; (case h => assumption); (case e => with_unfolding_all rfl); (case hs => (first | assumption | (apply Or.inl; assumption) | (apply Or.inr; simp))); (case z => (rw [sizeLine_eq]; ((try simp only [List.length_append, List.length_cons, List.length_nil, List.length_map, List.length_replicate, List.length_set, List.length_take, List.length_drop]) <;> omega))))
  | (apply h_append 1; (case h => assumption); (case e => with_unfolding_all rfl); (case hs => (first | assumption | (apply Or.inl; assumption) | (apply Or.inr; simp))); (case z => (rw [sizeLine_eq]; ((try simp only [List.length_append, List.length_cons, List.length_nil, List.length_map, List.length_replicate, List.length_set, List.length_take, List.length_drop]) <;> omega))))
  | (apply h_append 2; (case h => assumption); (case e => with_unfolding_all rfl); (case hs => (first | assumption | (apply Or.inl; assumption) | (apply Or.inr; simp))); (case z => (rw [sizeLine_eq]; ((try simp only [List.length_append, List.length_cons, List.length_nil, List.length_map, List.length_replicate, List.length_set, List.length_take, List.length_drop]) <;> omega))))
  | (apply h_append 3; (case h => assumption); (case e => with_unfolding_all rfl); (case hs => (first | assumption | (apply Or.inl; assumption) | (apply Or.inr; simp))); (case z => (rw [sizeLine_eq]; ((try simp only [List.length_append, List.length_cons, List.length_nil, List.length_map, List.length_replicate, List.length_set, List.length_take, List.length_drop]) <;> omega))))
  | (apply h_append 4; (case h => assumption); (case e => with_unfolding_all rfl); (case hs => (first | assumption | (apply Or.inl; assumption) | (apply Or.inr; simp))); (case z => (rw [sizeLine_eq]; ((try simp only [List.length_append, List.length_cons, List.length_nil, List.length_map, List.length_replicate, List.length_set, List.length_take, List.length_drop]) <;> omega))))
  | (apply h_appendD 0; (case h => assumption); (case e => with_unfolding_all rfl); (case hd => (first | apply Im.int | apply Im.str | apply Im.bl | apply Im.non | assumption | (apply h_imm 0; (case h => assumption); (case e => with_unfolding_all rfl)) | (apply h_imm 1; (case h => assumption); (case e => with_unfolding_all rfl)) | (apply h_imm 2; (case h => assumption); (case e => with_unfolding_all rfl)) | (apply h_imm 3; (case h => assumption); (case e => with_unfolding_all rfl)) | (apply h_imm 4; (case h => assumption); (case e => with_unfolding_all rfl)) | (apply h_imm 5; (case h => assumption); (case e => with_unfolding_all rfl)))); (case hs => (first | assumption | (apply Or.inl; assumption) | (apply Or.inr; simp))); (case z => (rw [sizeLine_eq]; ((try simp only [List.length_append, List.length_cons, List.length_nil, List.length_map, List.length_replicate, List.length_set, List.length_take, List.length_drop]) <;> omega))))
  | (apply h_appendD 1; (case h => assumption); (case e => with_unfolding_all rfl); (case hd => (first | apply Im.int | apply Im.str | apply Im.bl | apply Im.non | assumption | (apply h_imm 0; (case h => assumption); (case e => with_unfolding_all rfl)) | (apply h_imm 1; (case h => assumption); (case e => with_unfolding_all rfl)) | (apply h_imm 2; (case h => assumption); (case e => with_unfolding_all rfl)) | (apply h_imm 3; (case h => assumption); (case e => with_unfolding_all rfl)) | (apply h_imm 4; (case h => assumption); (case e => with_unfolding_all rfl)) | (apply h_imm 5; (case h => assumption); (case e => with_unfolding_all rfl)))); (case hs => (first | assumption | (apply Or.inl; assumption) | (apply Or.inr; simp))); (case z => (rw [sizeLine_eq]; ((try simp only [List.length_append, List.length_cons, List.length_nil, List.length_map, List.length_replicate, List.length_set, List.length_take, List.length_drop]) <;> omega))))
  | (apply h_appendD 2; (case h => assumption); (case e => with_unfolding_all rfl); (case hd => (first | apply Im.int | apply Im.str | apply Im.bl | apply Im.non | assumption | (apply h_imm 0; (case h => assumption); (case e => with_unfolding_all rfl)) | (apply h_imm 1; (case h => assumption); (case e => with_unfolding_all rfl)) | (apply h_imm 2; (case h => assumption); (case e => with_unfolding_all rfl)) | (apply h_imm 3; (case h => assumption); (case e => with_unfolding_all rfl)) | (apply h_imm 4; (case h => assumption); (case e => with_unfolding_all rfl)) | (apply h_imm 5; (case h => assumption); (case e => with_unfolding_all rfl)))); (case hs => (first | assumption | (apply Or.inl; assumption) | (apply Or.inr; simp))); (case z => (rw [sizeLine_eq]; ((try simp only [List.length_append, List.length_cons, List.length_nil, List.length_map, List.length_replicate, List.length_set, List.length_take, List.length_drop]) <;> omega))))
  | (apply h_appendD 3; (case h => assumption); (case e => with_unfolding_all rfl); (case hd => (first | apply Im.int | apply Im.str | apply Im.bl | apply Im.non | assumption | (apply h_imm 0; (case h => assumption); (case e => with_unfolding_all rfl)) | (apply h_imm 1; (case h => assumption); (case e => with_unfolding_all rfl)) | (apply h_imm 2; (case h => assumption); (case e => with_unfolding_all rfl)) | (apply h_imm 3; (case h => assumption); (case e => with_unfolding_all rfl)) | (apply h_imm 4; (case h => assumption); (case e => with_unfolding_all rfl)) | (apply h_imm 5; (case h => assumption); (case e => with_unfolding_all rfl)))); (case hs => (first | assumption | (apply Or.inl; assumption) | (apply Or.inr; simp))); (case z => (rw [sizeLine_eq]; ((try simp only [List.length_append, List.length_cons, List.length_nil, List.length_map, List.length_replicate, List.length_set, List.length_take, List.length_drop]) <;> omega))))
  | (apply h_appendD 4; (case h => assumption); (case e => with_unfolding_all rfl); (case hd => (first | apply Im.int | apply Im.str | apply Im.bl | apply Im.non | assumption | (apply h_imm 0; (case h => assumption); (case e => with_unfolding_all rfl)) | (apply h_imm 1; (case h => assumption); (case e => with_unfolding_all rfl)) | (apply h_imm 2; (case h => assumption); (case e => with_unfolding_all rfl)) | (apply h_imm 3; (case h => assumption); (case e => with_unfolding_all rfl)) | (apply h_imm 4; (case h => assumption); (case e => with_unfolding_all rfl)) | (apply h_imm 5; (case h => assumption); (case e => with_unfolding_all rfl)))); (case hs => (first | assumption | (apply Or.inl; assumption) | (apply Or.inr; simp))); (case z => (rw [sizeLine_eq]; ((try simp only [List.length_append, List.length_cons, List.length_nil, List.length_map, List.length_replicate, List.length_set, List.length_take, List.length_drop]) <;> omega))))
  | (apply h_tyL 0; (case h => assumption); (case e => with_unfolding_all rfl))
  | (apply h_tyL 1; (case h => assumption); (case e => with_unfolding_all rfl))
  | (apply h_tyL 2; (case h => assumption); (case e => with_unfolding_all rfl))
  | (apply h_tyL 3; (case h => assumption); (case e => with_unfolding_all rfl))
  | (apply h_tyL 4; (case h => assumption); (case e => with_unfolding_all rfl))
  | (apply h_tyD 0; (case h => assumption); (case e => with_unfolding_all rfl))
  | (apply h_tyD 1; (case h => assumption); (case e => with_unfolding_all rfl))
  | (apply h_tyD 2; (case h => assumption); (case e => with_unfolding_all rfl))
  | (apply h_tyD 3; (case h => assumption); (case e => with_unfolding_all rfl))
  | (apply h_tyD 4; (case h => assumption); (case e => with_unfolding_all rfl))
  | (apply h_tyS)
  | (apply h_lenL 0; (case h => assumption); (case e => with_unfolding_all rfl))
  | (apply h_lenL 1; (case h => assumption); (case e => with_unfolding_all rfl))
  | (apply h_lenL 2; (case h => assumption); (case e => with_unfolding_all rfl))
  | (apply h_lenL 3; (case h => assumption); (case e => with_unfolding_all rfl))
  | (apply h_lenL 4; (case h => assumption); (case e => with_unfolding_all rfl))
  | (apply h_lenD 0; (case h => assumption); (case e => with_unfolding_all rfl))
  | (apply h_lenD 1; (case h => assumption); (case e => with_unfolding_all rfl))
  | (apply h_lenD 2; (case h => assumption); (case e => with_unfolding_all rfl))
  | (apply h_lenD 3; (case h => assumption); (case e => with_unfolding_all rfl))
  | (apply h_lenD 4; (case h => assumption); (case e => with_unfolding_all rfl))
  | (apply h_setL 0; (case h => assumption); (case e => with_unfolding_all rfl); (case hs => (first | assumption | (apply Or.inl; assumption) | (apply Or.inr; simp))); (case hi => with_unfolding_all rfl))
  | (apply h_setL 1; (case h => assumption); (case e => with_unfolding_all rfl); (case hs => (first | assumption | (apply Or.inl; assumption) | (apply Or.inr; simp))); (case hi => with_unfolding_all rfl))
  | (apply h_setL 2; (case h => assumption); (case e => with_unfolding_all rfl); (case hs => (first | assumption | (apply Or.inl; assumption) | (apply Or.inr; simp))); (case hi => with_unfolding_all rfl))
  | (apply h_setL 3; (case h => assumption); (case e => with_unfolding_all rfl); (case hs => (first | assumption | (apply Or.inl; assumption) | (apply Or.inr; simp))); (case hi => with_unfolding_all rfl))
  | (apply h_setL 4; (case h => assumption); (case e => with_unfolding_all rfl); (case hs => (first | assumption | (apply Or.inl; assumption) | (apply Or.inr; simp))); (case hi => with_unfolding_all rfl))
  | (apply h_isLn 0; (case h => assumption); (case e => with_unfolding_all rfl))
  | (apply h_isLn 1; (case h => assumption); (case e => with_unfolding_all rfl))
  | (apply h_isLn 2; (case h => assumption); (case e => with_unfolding_all rfl))
  | (apply h_isLn 3; (case h => assumption); (case e => with_unfolding_all rfl))
  | (apply h_isLn 4; (case h => assumption); (case e => with_unfolding_all rfl))
  | (apply h_isLd 0; (case h => assumption); (case e => with_unfolding_all rfl))
  | (apply h_isLd 1; (case h => assumption); (case e => with_unfolding_all rfl))
  | (apply h_isLd 2; (case h => assumption); (case e => with_unfolding_all rfl))
  | (apply h_isLd 3; (case h => assumption); (case e => with_unfolding_all rfl))
  | (apply h_isLd 4; (case h => assumption); (case e => with_unfolding_all rfl))
  | (apply h_isT; (case h => (first | apply Im.int | apply Im.str | apply Im.bl | apply Im.non | assumption | (apply h_imm 0; (case h => assumption); (case e => with_unfolding_all rfl)) | (apply h_imm 1; (case h => assumption); (case e => with_unfolding_all rfl)) | (apply h_imm 2; (case h => assumption); (case e => with_unfolding_all rfl)) | (apply h_imm 3; (case h => assumption); (case e => with_unfolding_all rfl)) | (apply h_imm 4; (case h => assumption); (case e => with_unfolding_all rfl)) | (apply h_imm 5; (case h => assumption); (case e => with_unfolding_all rfl)))))
  | (apply h_tupOf 0; (case h => assumption); (case e => with_unfolding_all rfl))
  | (apply h_tupOf 1; (case h => assumption); (case e => with_unfolding_all rfl))
  | (apply h_tupOf 2; (case h => assumption); (case e => with_unfolding_all rfl))
  | (apply h_tupOf 3; (case h => assumption); (case e => with_unfolding_all rfl))
  | (apply h_tupOf 4; (case h => assumption); (case e => with_unfolding_all rfl))
  | (apply h_listOf 0; (case h => assumption); (case e => with_unfolding_all rfl))
  | (apply h_listOf 1; (case h => assumption); (case e => with_unfolding_all rfl))
  | (apply h_listOf 2; (case h => assumption); (case e => with_unfolding_all rfl))
  | (apply h_listOf 3; (case h => assumption); (case e => with_unfolding_all rfl))
  | (apply h_listOf 4; (case h => assumption); (case e => with_unfolding_all rfl))
  | (apply h_lst; (case h => assumption); (case z => (rw [sizeLine_eq]; ((try simp only [List.length_append, List.length_cons, List.length_nil, List.length_map, List.length_replicate, List.length_set, List.length_take, List.length_drop]) <;> omega))))
  | (apply h_tup; (case h => assumption); (case z => (rw [sizeLine_eq]; ((try simp only [List.length_append, List.length_cons, List.length_nil, List.length_map, List.length_replicate, List.length_set, List.length_take, List.length_drop]) <;> omega))); (case hd => repeat (first | apply Ims.nil | (apply Ims.cons; (focus (first | apply Im.int | apply Im.str | apply Im.bl | apply Im.non | assumption | (apply h_imm 0; (case h => assumption); (case e => with_unfolding_all rfl)) | (apply h_imm 1; (case h => assumption); (case e => with_unfolding_all rfl)) | (apply h_imm 2; (case h => assumption); (case e => with_unfolding_all rfl)) | (apply h_imm 3; (case h => assumption); (case e => with_unfolding_all rfl)) | (apply h_imm 4; (case h => assumption); (case e => with_unfolding_all rfl)) | (apply h_imm 5; (case h => assumption); (case e => with_unfolding_all rfl))))))))
  | (apply And.intro; (case left => (first | decide | omega | (simp only [List.length_map, List.length_append, List.length_take, List.length_drop, List.length_set]; omega))))
  | (apply h_mr; (case h1 => (first | decide | omega | (simp only [List.length_map, List.length_append, List.length_take, List.length_drop, List.length_set]; omega))); (case h2 => (first | decide | omega | (simp only [List.length_map, List.length_append, List.length_take, List.length_drop, List.length_set]; omega))))
  | (apply h_ml; (case h1 => (first | decide | omega | (simp only [List.length_map, List.length_append, List.length_take, List.length_drop, List.length_set]; omega))); (case h2 => (first | decide | omega | (simp only [List.length_map, List.length_append, List.length_take, List.length_drop, List.length_set]; omega))))
  | (apply h_dv; (case h1 => (first | decide | omega | (simp only [List.length_map, List.length_append, List.length_take, List.length_drop, List.length_set]; omega))); (case h2 => (first | decide | omega | (simp only [List.length_map, List.length_append, List.length_take, List.length_drop, List.length_set]; omega))))
  | (apply h_pw; (case h1 => (first | decide | omega | (simp only [List.length_map, List.length_append, List.length_take, List.length_drop, List.length_set]; omega))); (case h2 => (first | decide | omega | (simp only [List.length_map, List.length_append, List.length_take, List.length_drop, List.length_set]; omega))); (case h3 => decide))
  | (apply And.intro; (case left => (rw [sizeLine_eq]; ((try simp only [List.length_append, List.length_cons, List.length_nil, List.length_map, List.length_replicate, List.length_set, List.length_take, List.length_drop]) <;> omega))))
  | (apply h_wnum 0; (case h => assumption); (case e => with_unfolding_all rfl); (case h0 => (first | decide | omega | (simp only [List.length_map, List.length_append, List.length_take, List.length_drop, List.length_set]; omega))); (case h1 => (first | decide | omega | (simp only [List.length_map, List.length_append, List.length_take, List.length_drop, List.length_set]; omega))); (case h2 => (first | decide | omega | (simp only [List.length_map, List.length_append, List.length_take, List.length_drop, List.length_set]; omega))); (case h3 => (first | decide | omega | (simp only [List.length_map, List.length_append, List.length_take, List.length_drop, List.length_set]; omega))))
  | (apply h_wnum 1; (case h => assumption); (case e => with_unfolding_all rfl); (case h0 => (first | decide | omega | (simp only [List.length_map, List.length_append, List.length_take, List.length_drop, List.length_set]; omega))); (case h1 => (first | decide | omega | (simp only [List.length_map, List.length_append, List.length_take, List.length_drop, List.length_set]; omega))); (case h2 => (first | decide | omega | (simp only [List.length_map, List.length_append, List.length_take, List.length_drop, List.length_set]; omega))); (case h3 => (first | decide | omega | (simp only [List.length_map, List.length_append, List.length_take, List.length_drop, List.length_set]; omega))))
  | (apply h_wnum 2; (case h => assumption); (case e => with_unfolding_all rfl); (case h0 => (first | decide | omega | (simp only [List.length_map, List.length_append, List.length_take, List.length_drop, List.length_set]; omega))); (case h1 => (first | decide | omega | (simp only [List.length_map, List.length_append, List.length_take, List.length_drop, List.length_set]; omega))); (case h2 => (first | decide | omega | (simp only [List.length_map, List.length_append, List.length_take, List.length_drop, List.length_set]; omega))); (case h3 => (first | decide | omega | (simp only [List.length_map, List.length_append, List.length_take, List.length_drop, List.length_set]; omega))))
  | (apply h_rdword 0; (case h => assumption); (case e => with_unfolding_all rfl); (case h0 => (first | decide | omega | (simp only [List.length_map, List.length_append, List.length_take, List.length_drop, List.length_set]; omega))); (case h1 => (first | decide | omega | (simp only [List.length_map, List.length_append, List.length_take, List.length_drop, List.length_set]; omega))); (case h2 => (first | decide | omega | (simp only [List.length_map, List.length_append, List.length_take, List.length_drop, List.length_set]; omega))); (case h3 => (first | decide | omega | (simp only [List.length_map, List.length_append, List.length_take, List.length_drop, List.length_set]; omega))))
  | (apply h_rdword 1; (case h => assumption); (case e => with_unfolding_all rfl); (case h0 => (first | decide | omega | (simp only [List.length_map, List.length_append, List.length_take, List.length_drop, List.length_set]; omega))); (case h1 => (first | decide | omega | (simp only [List.length_map, List.length_append, List.length_take, List.length_drop, List.length_set]; omega))); (case h2 => (first | decide | omega | (simp only [List.length_map, List.length_append, List.length_take, List.length_drop, List.length_set]; omega))); (case h3 => (first | decide | omega | (simp only [List.length_map, List.length_append, List.length_take, List.length_drop, List.length_set]; omega))))
  | (apply h_rdword 2; (case h => assumption); (case e => with_unfolding_all rfl); (case h0 => (first | decide | omega | (simp only [List.length_map, List.length_append, List.length_take, List.length_drop, List.length_set]; omega))); (case h1 => (first | decide | omega | (simp only [List.length_map, List.length_append, List.length_take, List.length_drop, List.length_set]; omega))); (case h2 => (first | decide | omega | (simp only [List.length_map, List.length_append, List.length_take, List.length_drop, List.length_set]; omega))); (case h3 => (first | decide | omega | (simp only [List.length_map, List.length_append, List.length_take, List.length_drop, List.length_set]; omega))))
  | (apply h_rslot 0; (case h => assumption); (case e => with_unfolding_all rfl); (case h0 => (first | decide | omega | (simp only [List.length_map, List.length_append, List.length_take, List.length_drop, List.length_set]; omega))); (case h1 => (first | decide | omega | (simp only [List.length_map, List.length_append, List.length_take, List.length_drop, List.length_set]; omega))); (case h2 => (first | decide | omega | (simp only [List.length_map, List.length_append, List.length_take, List.length_drop, List.length_set]; omega))); (case h3 => (first | decide | omega | (simp only [List.length_map, List.length_append, List.length_take, List.length_drop, List.length_set]; omega))); (case h4 => (first | decide | omega | (simp only [List.length_map, List.length_append, List.length_take, List.length_drop, List.length_set]; omega))); (case h5 => (first | decide | omega | (simp only [List.length_map, List.length_append, List.length_take, List.length_drop, List.length_set]; omega))); (case h6 => (first | decide | omega | (simp only [List.length_map, List.length_append, List.length_take, List.length_drop, List.length_set]; omega))); (case h7 => (first | decide | omega | (simp only [List.length_map, List.length_append, List.length_take, List.length_drop, List.length_set]; omega))))
  | (apply h_rslot 1; (case h => assumption); (case e => with_unfolding_all rfl); (case h0 => (first | decide | omega | (simp only [List.length_map, List.length_append, List.length_take, List.length_drop, List.length_set]; omega))); (case h1 => (first | decide | omega | (simp only [List.length_map, List.length_append, List.length_take, List.length_drop, List.length_set]; omega))); (case h2 => (first | decide | omega | (simp only [List.length_map, List.length_append, List.length_take, List.length_drop, List.length_set]; omega))); (case h3 => (first | decide | omega | (simp only [List.length_map, List.length_append, List.length_take, List.length_drop, List.length_set]; omega))); (case h4 => (first | decide | omega | (simp only [List.length_map, List.length_append, List.length_take, List.length_drop, List.length_set]; omega))); (case h5 => (first | decide | omega | (simp only [List.length_map, List.length_append, List.length_take, List.length_drop, List.length_set]; omega))); (case h6 => (first | decide | omega | (simp only [List.length_map, List.length_append, List.length_take, List.length_drop, List.length_set]; omega))); (case h7 => (first | decide | omega | (simp only [List.length_map, List.length_append, List.length_take, List.length_drop, List.length_set]; omega))))
  | (apply h_rslot 2; (case h => assumption); (case e => with_unfolding_all rfl); (case h0 => (first | decide | omega | (simp only [List.length_map, List.length_append, List.length_take, List.length_drop, List.length_set]; omega))); (case h1 => (first | decide | omega | (simp only [List.length_map, List.length_append, List.length_take, List.length_drop, List.length_set]; omega))); (case h2 => (first | decide | omega | (simp only [List.length_map, List.length_append, List.length_take, List.length_drop, List.length_set]; omega))); (case h3 => (first | decide | omega | (simp only [List.length_map, List.length_append, List.length_take, List.length_drop, List.length_set]; omega))); (case h4 => (first | decide | omega | (simp only [List.length_map, List.length_append, List.length_take, List.length_drop, List.length_set]; omega))); (case h5 => (first | decide | omega | (simp only [List.length_map, List.length_append, List.length_take, List.length_drop, List.length_set]; omega))); (case h6 => (first | decide | omega | (simp only [List.length_map, List.length_append, List.length_take, List.length_drop, List.length_set]; omega))); (case h7 => (first | decide | omega | (simp only [List.length_map, List.length_append, List.length_take, List.length_drop, List.length_set]; omega))))
  | (apply h_put 0; (case h => assumption); (case e => with_unfolding_all rfl); (case h0 => (first | decide | omega | (simp only [List.length_map, List.length_append, List.length_take, List.length_drop, List.length_set]; omega))); (case h1 => (first | decide | omega | (simp only [List.length_map, List.length_append, List.length_take, List.length_drop, List.length_set]; omega))); (case h2 => (first | decide | omega | (simp only [List.length_map, List.length_append, List.length_take, List.length_drop, List.length_set]; omega))); (case h3 => (first | decide | omega | (simp only [List.length_map, List.length_append, List.length_take, List.length_drop, List.length_set]; omega))); (case hs => (first | assumption | (apply Or.inl; assumption) | (apply Or.inr; simp))))
  | (apply h_put 1; (case h => assumption); (case e => with_unfolding_all rfl); (case h0 => (first | decide | omega | (simp only [List.length_map, List.length_append, List.length_take, List.length_drop, List.length_set]; omega))); (case h1 => (first | decide | omega | (simp only [List.length_map, List.length_append, List.length_take, List.length_drop, List.length_set]; omega))); (case h2 => (first | decide | omega | (simp only [List.length_map, List.length_append, List.length_take, List.length_drop, List.length_set]; omega))); (case h3 => (first | decide | omega | (simp only [List.length_map, List.length_append, List.length_take, List.length_drop, List.length_set]; omega))); (case hs => (first | assumption | (apply Or.inl; assumption) | (apply Or.inr; simp))))
  | (apply h_put 2; (case h => assumption); (case e => with_unfolding_all rfl); (case h0 => (first | decide | omega | (simp only [List.length_map, List.length_append, List.length_take, List.length_drop, List.length_set]; omega))); (case h1 => (first | decide | omega | (simp only [List.length_map, List.length_append, List.length_take, List.length_drop, List.length_set]; omega))); (case h2 => (first | decide | omega | (simp only [List.length_map, List.length_append, List.length_take, List.length_drop, List.length_set]; omega))); (case h3 => (first | decide | omega | (simp only [List.length_map, List.length_append, List.length_take, List.length_drop, List.length_set]; omega))); (case hs => (first | assumption | (apply Or.inl; assumption) | (apply Or.inr; simp))))
  | (apply h_wrword 0; (case h => assumption); (case e => with_unfolding_all rfl); (case h0 => (first | decide | omega | (simp only [List.length_map, List.length_append, List.length_take, List.length_drop, List.length_set]; omega))); (case h1 => (first | decide | omega | (simp only [List.length_map, List.length_append, List.length_take, List.length_drop, List.length_set]; omega))); (case h2 => (first | decide | omega | (simp only [List.length_map, List.length_append, List.length_take, List.length_drop, List.length_set]; omega))); (case h3 => (first | decide | omega | (simp only [List.length_map, List.length_append, List.length_take, List.length_drop, List.length_set]; omega))); (case hs => (first | assumption | (apply Or.inl; assumption) | (apply Or.inr; simp))))
  | (apply h_wrword 1; (case h => assumption); (case e => with_unfolding_all rfl); (case h0 => (first | decide | omega | (simp only [List.length_map, List.length_append, List.length_take, List.length_drop, List.length_set]; omega))); (case h1 => (first | decide | omega | (simp only [List.length_map, List.length_append, List.length_take, List.length_drop, List.length_set]; omega))); (case h2 => (first | decide | omega | (simp only [List.length_map, List.length_append, List.length_take, List.length_drop, List.length_set]; omega))); (case h3 => (first | decide | omega | (simp only [List.length_map, List.length_append, List.length_take, List.length_drop, List.length_set]; omega))); (case hs => (first | assumption | (apply Or.inl; assumption) | (apply Or.inr; simp))))
  | (apply h_wrword 2; (case h => assumption); (case e => with_unfolding_all rfl); (case h0 => (first | decide | omega | (simp only [List.length_map, List.length_append, List.length_take, List.length_drop, List.length_set]; omega))); (case h1 => (first | decide | omega | (simp only [List.length_map, List.length_append, List.length_take, List.length_drop, List.length_set]; omega))); (case h2 => (first | decide | omega | (simp only [List.length_map, List.length_append, List.length_take, List.length_drop, List.length_set]; omega))); (case h3 => (first | decide | omega | (simp only [List.length_map, List.length_append, List.length_take, List.length_drop, List.length_set]; omega))); (case hs => (first | assumption | (apply Or.inl; assumption) | (apply Or.inr; simp))))
  | (apply h_power; (case h0 => (first | decide | omega | (simp only [List.length_map, List.length_append, List.length_take, List.length_drop, List.length_set]; omega))); (case h1 => (first | decide | omega | (simp only [List.length_map, List.length_append, List.length_take, List.length_drop, List.length_set]; omega))))
  | (apply h_bounds; (case h => assumption); (case h0 => (first | decide | omega | (simp only [List.length_map, List.length_append, List.length_take, List.length_drop, List.length_set]; omega))); (case h1 => (first | decide | omega | (simp only [List.length_map, List.length_append, List.length_take, List.length_drop, List.length_set]; omega))))
  | (apply h_isS)
  | (apply h_ord)
  | (apply h_max2)
  | (apply h_fld 0; (case h => assumption); (case e => with_unfolding_all rfl); (case c => assumption); (case hf => (repeat (first | apply List.mem_cons_self | apply List.mem_cons_of_mem))); (case hl => (first | exact Rd_numbers | exact Rd_at)))
  | (apply h_fld 1; (case h => assumption); (case e => with_unfolding_all rfl); (case c => assumption); (case hf => (repeat (first | apply List.mem_cons_self | apply List.mem_cons_of_mem))); (case hl => (first | exact Rd_numbers | exact Rd_at)))
  | (apply h_fld 2; (case h => assumption); (case e => with_unfolding_all rfl); (case c => assumption); (case hf => (repeat (first | apply List.mem_cons_self | apply List.mem_cons_of_mem))); (case hl => (first | exact Rd_numbers | exact Rd_at)))
  | (apply h_fld 3; (case h => assumption); (case e => with_unfolding_all rfl); (case c => assumption); (case hf => (repeat (first | apply List.mem_cons_self | apply List.mem_cons_of_mem))); (case hl => (first | exact Rd_numbers | exact Rd_at)))
  | (apply h_sfld 0; (case h => assumption); (case e => with_unfolding_all rfl); (case c => assumption); (case hf => (repeat (first | apply List.mem_cons_self | apply List.mem_cons_of_mem))); (case hs => (first | assumption | (apply Or.inl; assumption) | (apply Or.inr; simp))); (case hl => (with_unfolding_all exact Nat.le_of_ble_eq_true rfl)); (case hp => (first | exact Rd_put_at | exact Rd_new_numbers | exact Rd_new_at)))
  | (apply h_sfld 1; (case h => assumption); (case e => with_unfolding_all rfl); (case c => assumption); (case hf => (repeat (first | apply List.mem_cons_self | apply List.mem_cons_of_mem))); (case hs => (first | assumption | (apply Or.inl; assumption) | (apply Or.inr; simp))); (case hl => (with_unfolding_all exact Nat.le_of_ble_eq_true rfl)); (case hp => (first | exact Rd_put_at | exact Rd_new_numbers | exact Rd_new_at)))
  | (apply h_sfld 2; (case h => assumption); (case e => with_unfolding_all rfl); (case c => assumption); (case hf => (repeat (first | apply List.mem_cons_self | apply List.mem_cons_of_mem))); (case hs => (first | assumption | (apply Or.inl; assumption) | (apply Or.inr; simp))); (case hl => (with_unfolding_all exact Nat.le_of_ble_eq_true rfl)); (case hp => (first | exact Rd_put_at | exact Rd_new_numbers | exact Rd_new_at)))
  | (apply h_sfld 3; (case h => assumption); (case e => with_unfolding_all rfl); (case c => assumption); (case hf => (repeat (first | apply List.mem_cons_self | apply List.mem_cons_of_mem))); (case hs => (first | assumption | (apply Or.inl; assumption) | (apply Or.inr; simp))); (case hl => (with_unfolding_all exact Nat.le_of_ble_eq_true rfl)); (case hp => (first | exact Rd_put_at | exact Rd_new_numbers | exact Rd_new_at)))
  | (apply h_faug 0; (case h => assumption); (case e => with_unfolding_all rfl); (case c => assumption); (case hf => (repeat (first | apply List.mem_cons_self | apply List.mem_cons_of_mem))); (case hl => (first | exact Rd_numbers | exact Rd_at)))
  | (apply h_faug 1; (case h => assumption); (case e => with_unfolding_all rfl); (case c => assumption); (case hf => (repeat (first | apply List.mem_cons_self | apply List.mem_cons_of_mem))); (case hl => (first | exact Rd_numbers | exact Rd_at)))
  | (apply h_faug 2; (case h => assumption); (case e => with_unfolding_all rfl); (case c => assumption); (case hf => (repeat (first | apply List.mem_cons_self | apply List.mem_cons_of_mem))); (case hl => (first | exact Rd_numbers | exact Rd_at)))
  | (apply h_faug 3; (case h => assumption); (case e => with_unfolding_all rfl); (case c => assumption); (case hf => (repeat (first | apply List.mem_cons_self | apply List.mem_cons_of_mem))); (case hl => (first | exact Rd_numbers | exact Rd_at)))
  | (apply h_faug2 0; (case h => assumption); (case e => with_unfolding_all rfl); (case hs => (first | assumption | (apply Or.inl; assumption) | (apply Or.inr; simp))); (case hl => (with_unfolding_all exact Nat.le_of_ble_eq_true rfl)); (case hp => (first | exact Rd_put_at | exact Rd_new_numbers | exact Rd_new_at)))
  | (apply h_faug2 1; (case h => assumption); (case e => with_unfolding_all rfl); (case hs => (first | assumption | (apply Or.inl; assumption) | (apply Or.inr; simp))); (case hl => (with_unfolding_all exact Nat.le_of_ble_eq_true rfl)); (case hp => (first | exact Rd_put_at | exact Rd_new_numbers | exact Rd_new_at)))
  | (apply h_faug2 2; (case h => assumption); (case e => with_unfolding_all rfl); (case hs => (first | assumption | (apply Or.inl; assumption) | (apply Or.inr; simp))); (case hl => (with_unfolding_all exact Nat.le_of_ble_eq_true rfl)); (case hp => (first | exact Rd_put_at | exact Rd_new_numbers | exact Rd_new_at)))
  | (apply h_faug2 3; (case h => assumption); (case e => with_unfolding_all rfl); (case hs => (first | assumption | (apply Or.inl; assumption) | (apply Or.inr; simp))); (case hl => (with_unfolding_all exact Nat.le_of_ble_eq_true rfl)); (case hp => (first | exact Rd_put_at | exact Rd_new_numbers | exact Rd_new_at)))
  | (apply h_meth 0; (case h => assumption); (case e => with_unfolding_all rfl); (case hl => (first | exact Rd_no_next | exact Rd_no_integer | exact Rd_no_character | exact Rd_no_characters | exact Rd_no_argument)))
  | (apply h_meth 1; (case h => assumption); (case e => with_unfolding_all rfl); (case hl => (first | exact Rd_no_next | exact Rd_no_integer | exact Rd_no_character | exact Rd_no_characters | exact Rd_no_argument)))
  | (apply h_meth 2; (case h => assumption); (case e => with_unfolding_all rfl); (case hl => (first | exact Rd_no_next | exact Rd_no_integer | exact Rd_no_character | exact Rd_no_characters | exact Rd_no_argument)))
  | (apply h_meth 3; (case h => assumption); (case e => with_unfolding_all rfl); (case hl => (first | exact Rd_no_next | exact Rd_no_integer | exact Rd_no_character | exact Rd_no_characters | exact Rd_no_argument)))) | with_reducible intro))

def t_two_numbers (K : PySem.W.Frag) (A : Ad) : TS :=
  (tRet (tLst (tCons (tOp mMod (mV 0) (tC (.int 256))) (tCons (tOp mFdiv (mV 0) (tC (.int 256))) tNil))))
theorem rd_two_numbers {K : PySem.W.Frag} {A : Ad} {vs : List V} {H : Hp} {Q : VK} {E : XK} (h : sp_two_numbers K A vs H Q E) : t_two_numbers K A { nx := fun _ H' => Q .non H', rt := Q } (start ["number"] vs) H := by
  obtain ⟨n, rfl, hn, k⟩ := h
  show t_two_numbers K A _ [some (.int n)] H
  unfold t_two_numbers
  have hL : Led K H [] H [] [] := Led.start
  walk_at "gs"
  rename_i p H1 np h1
  have e : (two n).map V.int = [.int ((n : Int) % 256), .int ((n : Int) / 256)] := by
    unfold two
    rw [List.map_cons, List.map_cons, Int.natCast_emod, Int.natCast_ediv]
    rfl
  refine k p H1 h1.same0 (el0 np) ?_
  rw [e]
  exact h1.raw 0 rfl
def t_write_integer (K : PySem.W.Frag) (A : Ad) : TS :=
  (tSeq (tAsg (tLst (tCons (mIfE (mTest (tOp mLt (mV 0) (tC (.int 0)))) (tC (.int 1)) (tC (.int 0))) tNil)) (gName 1))
  (tSeq (tAsg (tCB mAbs (tCons (mV 0) tNil)) (gName 2))
  (tSeq (tFor (jR1 (tCons (tC (.int 4)) tNil)) (gName 3)
    (tSeq (tDrop (tBM K "list" rAppend (mV 1) (tCons (tOp mMod (mV 2) (tC (.int 256))) tNil)))
  (tAsg (tOp mFdiv (mV 2) (tC (.int 256))) (gName 2))))
  (tRet (mV 1)))))
theorem rd_write_integer {K : PySem.W.Frag} {A : Ad} {vs : List V} {H : Hp} {Q : VK} {E : XK} (h : sp_write_integer K A vs H Q E) : t_write_integer K A { nx := fun _ H' => Q .non H', rt := Q } (start ["value", "numbers", "rest", "_"] vs) H := by
  obtain ⟨i, rfl, i1, i2, k⟩ := h
  show t_write_integer K A _ [some (.int i), none, none, none] H
  unfold t_write_integer
  have hL : Led K H [] H [] [] := Led.start
  walk_at "gs"
  refine h_brEv (.int (if i < 0 then 1 else 0)) (fun c Q' q => ?_) (fun c Q' q => ?_) ?_
  · rw [if_pos (of_decide_eq_true c)] at q
    exact q
  · rw [if_neg (of_decide_eq_false c)] at q
    exact q
  walk_at "gs"
  rename_i p H1 np h1
  clear hL
  have ha : 0 ≤ absI i ∧ absI i < 2 ^ 32 := by
    unfold absI
    split <;> omega
  refine lpR (fun t σ H2 => ∃ y : Option V, σ = [some (.int i), some (.ref p), some (.int (absI i / 256 ^ t)), y] ∧ Led K H [] H2 [(p, .raw (.lst (((if i < 0 then 1 else 0) :: dg 256 t (absI i)).map V.int)))] [])
    ⟨_, by rw [Int.pow_zero, Int.ediv_one]; rfl, h1⟩ ?_ ?_
  · clear h1
    rintro t σ H2 ht ⟨y, rfl, h2⟩
    have ht : t < 4 := ht
    have hq : 0 ≤ absI i / 256 ^ t := Int.ediv_nonneg ha.1 (Int.pow_nonneg (by decide))
    generalize hr : absI i / 256 ^ t = r at hq
    have hdl := dg_len 256 t (absI i)
    walk_at "gs"
    rename_i h3
    refine ⟨some (.int (0 + (t : Int))), ?_, ?_⟩
    · rw [Int.pow_succ, ← Int.ediv_ediv_of_nonneg (Int.pow_nonneg (by decide)), hr]
    · rw [dg_snoc (by decide), hr, ← List.cons_append, List.map_append]
      exact h3
  · rintro σ H2 ⟨y, rfl, h2⟩
    clear h1
    walk_at "gs"
    exact k p H2 h2.same0 (el0 np) (h2.raw 0 rfl)
def t_write_characters (K : PySem.W.Frag) (A : Ad) : TS :=
  (tRet (tLc (jS (mV 0)) (gName 1) tYes (tCB mOrd (tCons (mV 1) tNil)) [1]))
theorem rd_write_characters {K : PySem.W.Frag} {A : Ad} {vs : List V} {H : Hp} {Q : VK} {E : XK} (h : sp_write_characters K A vs H Q E) : t_write_characters K A { nx := fun _ H' => Q .non H', rt := Q } (start ["text", "sign"] vs) H := by
  obtain ⟨x, rfl, hx, k⟩ := h
  show t_write_characters K A _ [some (.str x), none] H
  unfold t_write_characters
  have hL : Led K H [] H [] [] := Led.start
  walk_at "gs"
  refine lcS hL (fun p i H2 => (H p = none ∨ p ∈ []) ∧ Led K H [] H2 [(p, .raw (.lst (((sgs x).take i).map V.int)))] []) (fun p H2 np h2 => ⟨np, h2⟩) ?_ ?_
  · rintro p i c H2 hc ⟨np, h2⟩
    have hi : i < x.cps.size := (Array.getElem?_eq_some_iff.mp hc).1
    have hg : (sgs x)[i]? = some ((c : Nat) : Int) := by
      unfold sgs
      rw [List.getElem?_map, Array.getElem?_toList, hc]
      rfl
    walk_at "gs"
    obtain ⟨acc2, a1, a2, a3⟩ := h_accL (y := .int ((c : Nat) : Int)) 0 h2 rfl np (by rw [List.length_map, List.length_take, sizeLine_eq]; omega)
    refine ⟨acc2, a1, a2, np, ?_⟩
    rw [List.take_add_one, hg, List.map_append]
    exact a3
  · rintro p H2 ⟨np, h2⟩
    rw [List.take_of_length_le (by unfold sgs; rw [List.length_map, Array.length_toList]; exact Nat.le_refl _)] at h2
    exact k p H2 h2.same0 (el0 np) (h2.raw 0 rfl)
def t_write_argument (K : PySem.W.Frag) (A : Ad) : TS :=
  (tSeq (mIf (mTest (tOp (mEq K) (mV 0) (tC (.str "b"))))
    (tRet (tLst (tCons (mIfE (mTr K (mV 1)) (tC (.int 1)) (tC (.int 0))) tNil)))
    tNext)
  (tSeq (mIf (mTest (tOp rInS (mV 0) (tC (.str "iI"))))
    (tRet (mIfE (mTest (tOp mIsN (mV 1) (tC .non))) (tLst (tCons (tC (.int 2)) tNil)) (tCall (sp_write_integer K A) [] E0 (tCons (mV 1) tNil))))
    tNext)
  (tRet (mIfE (mTest (tOp mIsN (mV 1) (tC .non))) (tLst (tCons (tC (.int 255)) tNil)) (tOp (mAdd K) (tLst (tCons (tCB (hLen K) (tCons (mV 1) tNil)) tNil)) (tCall (sp_write_characters K A) [] E0 (tCons (mV 1) tNil)))))))
theorem rd_write_argument {K : PySem.W.Frag} {A : Ad} {vs : List V} {H : Hp} {Q : VK} {E : XK} (h : sp_write_argument K A vs H Q E) : t_write_argument K A { nx := fun _ H' => Q .non H', rt := Q } (start ["kind", "value"] vs) H := by
  obtain ⟨kd, v, rfl, ok, k⟩ := h
  show t_write_argument K A _ [some (.str ⟨#[kd]⟩), some v] H
  unfold t_write_argument
  have hL : Led K H [] H [] [] := Led.start
  have hb : ((⟨#[kd]⟩ : Str) = "b") ↔ kd = 98 := by
    rw [show ("b" : Str) = ⟨#[98]⟩ by decide]
    simp
  have hi : (kd ∈ ("iI" : Str).cps.toList) ↔ (kd = 105 ∨ kd = 73) := by
    rw [show ("iI" : Str).cps.toList = [105, 73] by decide]
    simp
  walk_at "gs"
  refine h_brS (fun c => ?_) (fun c => ?_)
  · have c := hb.mp c
    subst c
    cases v with
    | bl b =>
      walk_at "gs"
      refine h_brEv (.int (if b = true then 1 else 0)) (fun c Q' q => ?_) (fun c Q' q => ?_) ?_
      · rw [if_pos c] at q
        exact q
      · rw [if_neg (by rw [c]; exact Bool.false_ne_true)] at q
        exact q
      walk_at "gs"
      rename_i p H1 np h1
      exact k p H1 h1.same0 (el0 np) (h1.raw 0 rfl)
    | int i => exact absurd ok.1 (by decide)
    | str x => exact absurd ok.1 (by decide)
    | non => exact absurd ok (by show ¬ (98 = 73 ∨ 98 = 84); decide)
    | byt b => exact ok.elim
    | flt b => exact ok.elim
    | ref a => exact ok.elim
    | ty t => exact ok.elim
  · have c : kd ≠ 98 := fun z => c (hb.mpr z)
    walk_at "gs"
    refine ⟨kd, _, rfl, rfl, ?_⟩
    walk_at "gs"
    refine h_br (fun c1 => ?_) (fun c1 => ?_)
    · have c1 := hi.mp c1
      cases v with
      | int i =>
        walk_at "gs"
        exact ⟨i, rfl, ok.2.1, ok.2.2, k⟩
      | non =>
        walk_at "gs"
        rename_i p H1 np h1
        refine k p H1 h1.same0 (el0 np) ?_
        have e : encA kd .non = [2] := by
          show [if kd = 84 then 255 else 2] = _
          rw [if_neg (by omega)]
        rw [e]
        exact h1.raw 0 rfl
      | str x => exact absurd ok.1 (by omega)
      | bl b => exact absurd ok c
      | byt b => exact ok.elim
      | flt b => exact ok.elim
      | ref a => exact ok.elim
      | ty t => exact ok.elim
    · have c1 : ¬ (kd = 105 ∨ kd = 73) := fun z => c1 (hi.mpr z)
      cases v with
      | int i => exact absurd ok.1 c1
      | non =>
        walk_at "gs"
        rename_i p H1 np h1
        refine k p H1 h1.same0 (el0 np) ?_
        have ok : kd = 73 ∨ kd = 84 := ok
        have e : encA kd .non = [255] := by
          show [if kd = 84 then 255 else 2] = _
          rw [if_pos (by omega)]
        rw [e]
        exact h1.raw 0 rfl
      | str x =>
        have hx := ok.2.1
        walk_at "gs"
        refine h_lenS (by rw [sizeLine_eq]; show x.cps.size ≤ _; omega) ?_
        walk_at "gs"
        rename_i p H1 np h1
        refine ⟨x, rfl, by omega, fun q H2 s2 nq hq => ?_⟩
        have h2 := h1.new (e := .raw (.lst ((sgs x).map V.int))) s2 nq hq
        refine h_catG 1 0 h2 rfl rfl (by unfold sgs; rw [List.length_map, List.length_map, Array.length_toList, sizeLine_eq]; show 1 + x.cps.size ≤ _; omega) fun r H3 nr h3 => ?_
        exact k r H3 h3.same0 (el0 nr) (h3.raw 0 rfl)
      | bl b => exact absurd ok c
      | byt b => exact ok.elim
      | flt b => exact ok.elim
      | ref a => exact ok.elim
      | ty t => exact ok.elim

structure XC (K : PySem.W.Frag) (A : Ad) : Prop where
  ex_BadJournal : ExcC K A.c_BadJournal
  exm_BadJournal_RecordError : PySem.W.exmOne K (.ref A.c_BadJournal) (.ref A.c_RecordError) = some true
  exm_NoEntry_NoEntry : PySem.W.exmOne K (.ref A.c_NoEntry) (.ref A.c_NoEntry) = some true
  kit_BadJournal_BadJournal : PySem.W.kitOne K (.ref A.c_BadJournal) (.ref A.c_BadJournal) = some true
  kit_BadJournal_ValueError : PySem.W.kitOne K (.ref A.c_BadJournal) (.type "ValueError") = some true
  cf_Reading : CF K A.c_Reading ["numbers", "at"]
  im_FORMS : ∀ H, Im K H (.ref (A.k 0)) formsD

section
variable {K : PySem.W.Frag} {H0 H : Hp} {S : List Addr} {L : List (Addr × Ent)} {I : List (V × PyData)} {Q : VK} {g : TG} {D : Ends} {σ : L2.St} {tt : TT} {te : TE} {vs : List Nat} {a : Addr} {ds : List PyData}
/-- a tuple of the written part that is walked -/
theorem walk_imK (hi : ∀ H, Im K H (.ref a) (.tuple ds)) : Walk (Itt K a) ds.length (fun _ => True) (fun i H x H' => H' = H ∧ ∃ d, ds[i]? = some d ∧ Im K H x d) := by
  refine ⟨fun i H hn _ => ?_, fun H _ => ?_, fun i H x H' hn _ y => ?_⟩
  · cases hi H with
    | @tup _ xs _ hs ha =>
      have hn' : i < xs.length := by rw [ha.len]; exact hn
      exact ⟨xs, xs[i], hs, List.getElem?_eq_getElem hn'⟩
  · cases hi H with
    | @tup _ xs _ hs ha => exact ⟨xs, hs, Nat.le_of_eq ha.len⟩
  · cases hi H with
    | @tup _ xs _ hs ha =>
      obtain ⟨d, h1, h2⟩ := ha.get (y.2 xs hs)
      exact ⟨y.1, d, h1, h2⟩
theorem lcTI (h : Led K H0 S H L I) (hi : ∀ H, Im K H (.ref a) (.tuple ds)) (Pv : Addr → Nat → Hp → Prop) (h0 : ∀ p H', H0 p = none ∨ p ∈ S → Led K H0 S H' ((p, .raw (.lst [])) :: L) I → Pv p 0 H')
    (hs : ∀ p i x d H, ds[i]? = some d → Im K H x d → Pv p i H → g x (wipe σ vs) H fun σ2 H2 => wipe σ2 vs = wipe σ vs ∧ tt σ2 H2 fun b H3 =>
      if b = true then te σ2 H3 fun y H4 => ∃ acc, H4 p = some (.lst acc) ∧ acc.length < sizeLine ∧ Pv p (i + 1) (upd H4 p (.lst (acc ++ [y]))) else Pv p (i + 1) H3)
    (hd : ∀ p H, Pv p ds.length H → Q (.ref p) H) : Lc (Itt K a) g tt te vs σ H Q := fun p hp =>
  lc_it (walk_imK hi) (Pv p) (h0 p _ (h.fr hp) (h.alloc hp)) (fun _ _ _ _ => True.intro) (fun i x H H' _ q y => by
    obtain ⟨rfl, d, h1, h2⟩ := y
    exact hs p i x d _ h1 h2 q) (hd p)
theorem h_ixTT {xs : List V} {i : Int} {v : V} (h : SqT K H a xs) (hx : atI xs i = some v) (k : Q v H) : rIx K (.ref a) (.int i) H Q := .inr (.inl ⟨a, xs, i, v, rfl, rfl, h, hx, k⟩)
theorem h_extend {b : Addr} {xs zs : List V} (n : Nat) (h : Led K H0 S H L I) (e : L[n]? = some (a, .raw (.lst xs))) (e2 : H b = some (.lst zs)) (hs : H0 a = none ∨ a ∈ S) (z : xs.length + zs.length ≤ sizeLine) (k : ∀ H', Led K H0 S H' (L.set n (a, .raw (.lst (xs ++ zs)))) I → Q .non H') : rExtend (.ref a) [.ref b] H Q :=
  ⟨a, b, xs, zs, rfl, rfl, h.raw n e, e2, z, k _ (h.wr n e (fun c o q hb => by rw [upd_ne (by simpa using hb)]; exact q) (h.raw n e) rfl upd_same hs)⟩
theorem h_ixStr {xs : List Str} {j : Nat} {x : Str} (h : SqL K H a (xs.map V.str)) (e : xs[j]? = some x) (hn : ∀ m y, m < j → xs[m]? = some y → y ≠ x) (k : Q (.int (j : Nat)) H) : rIndex K (.ref a) [.str x] H Q := by
  refine ⟨a, _, .str x, j, .str x, rfl, rfl, h, rfl, List.all_eq_true.mpr fun v hv => ?_, by rw [List.getElem?_map, e]; rfl, beq_self_eq_true x, fun m z hm hz => ?_, k⟩
  · obtain ⟨y, _, rfl⟩ := List.mem_map.mp hv
    rfl
  · obtain ⟨y, hy, rfl⟩ := map_get hz
    exact beq_eq_false_iff_ne.mpr (hn m y hm hy)
end
theorem forms_ne {i m : Nat} {r q : Str × Str} (h : forms[i]? = some r) (hm : m < i) (e : forms[m]? = some q) : q.1 ≠ r.1 := by
  have key : ∀ i < 18, ∀ m < i, (forms.getD m ("", "")).1 ≠ (forms.getD i ("", "")).1 := by decide +kernel
  have hi : i < 18 := (List.getElem?_eq_some_iff.mp h).1
  have z := key i hi m hm
  rw [List.getD_eq_getElem?_getD, List.getD_eq_getElem?_getD, h, e] at z
  exact z
theorem h_ixIm {K : PySem.W.Frag} {H : Hp} {Q : VK} {a : Addr} {ds : List PyData} {i : Int} {d : PyData} (hd : Im K H (.ref a) (.tuple ds)) (h0 : 0 ≤ i) (hx : ds[i.toNat]? = some d) (k : ∀ v, Im K H v d → Q v H) : rIx K (.ref a) (.int i) H Q := by
  cases hd with
  | tup hs ha =>
    obtain ⟨v, h1, h2⟩ := ha.get' hx
    exact h_ixTT hs (at_nn h0 h1) (k v h2)
theorem Im.ref {K : PySem.W.Frag} {H : Hp} {v : V} {ds : List PyData} (h : Im K H v (.tuple ds)) : ∃ a, v = .ref a := by
  cases h with
  | tup hs ha => exact ⟨_, rfl⟩

def t_write_content (K : PySem.W.Frag) (A : Ad) : TS :=
  (tSeq (mIf (mTest (tOp (mEq K) (mV 0) (tC (.str "start"))))
    (tRet (tOp (mAdd K) (tOp (mAdd K) (tLst (tCons (tC (.int 0)) tNil)) (tCall (sp_two_numbers K A) [] E0 (tCons (tOp (rIx K) (mV 1) (tC (.int 0))) tNil))) (tCall (sp_write_characters K A) [] E0 (tCons (tOp (rIx K) (mV 1) (tC (.int 1))) tNil))))
    tNext)
  (tSeq (tAsg (tLc (jT K (tC (.ref (A.k 0)))) (gName 7) tYes (tOp (rIx K) (mV 7) (tC (.int 0))) [7]) (gName 2))
  (tSeq (tAsg (tBM K "list" (rIndex K) (mV 2) (tCons (mV 0) tNil)) (gName 3))
  (tSeq (tAsg (tLst (tCons (tOp (mAdd K) (mV 3) (tC (.int 1))) tNil)) (gName 4))
  (tSeq (tFor (jES (tCons (tOp (rIx K) (tOp (rIx K) (tC (.ref (A.k 0))) (mV 3)) (tC (.int 1))) tNil)) (gTup K 2 (mGc (gName 5) (mGc (gName 6) mGn)))
    (tDrop (tBM K "list" rExtend (mV 4) (tCons (tCall (sp_write_argument K A) [] E0 (tCons (mV 6) (tCons (tOp (rIx K) (mV 1) (mV 5)) tNil))) tNil))))
  (tRet (mV 4)))))))
theorem rd_write_content {K : PySem.W.Frag} {A : Ad} {vs : List V} {H : Hp} {Q : VK} {E : XK} (C : XC K A) (h : sp_write_content K A vs H Q E) : t_write_content K A { nx := fun _ H' => Q .non H', rt := Q } (start ["name", "arguments", "names", "number", "numbers", "at", "kind", "row"] vs) H := by
  obtain ⟨n, a, us, c, rfl, hsq, hc, k⟩ := h
  show t_write_content K A _ [some (.str n), some (.ref a), none, none, none, none, none, none] H
  unfold t_write_content
  have hL : Led K H [] H [] [] := Led.start
  have hF := C.im_FORMS
  walk_at "gs"
  refine h_brS (fun e => ?_) (fun e => ?_)
  · cases hc with
    | call i n ks vs e2 ok => exact absurd e (forms_kinds e2).2.2
    | start size x hs hx ok =>
      walk_at "gs"
      rename_i p H1 np h1
      refine h_ixTT (sqT_keep h1.kp NoT.nil hsq) (at_nn (by decide) rfl) ?_
      refine ⟨size, rfl, by omega, fun q H2 s2 nq hq => ?_⟩
      have h2 := h1.new (e := .raw (.lst ((two size).map V.int))) s2 nq hq
      clear h1
      refine h_catG 1 0 h2 rfl rfl (Nat.le_of_ble_eq_true rfl) fun r H3 nr h3 => ?_
      clear h2
      refine h_ixTT (sqT_keep h3.kp NoT.nil hsq) (at_nn (by decide) rfl) ?_
      refine ⟨x, rfl, hx, fun u H4 s4 nu hu => ?_⟩
      have h4 := h3.new (e := .raw (.lst ((sgs x).map V.int))) s4 nu hu
      clear h3
      refine h_catG 1 0 h4 rfl rfl (by unfold sgs; rw [List.length_map, List.length_map, Array.length_toList, sizeLine_eq]; show 3 + x.cps.size ≤ _; omega) fun w H5 nw h5 => ?_
      exact k w H5 h5.same0 (el0 nw) (h5.raw 0 rfl)
  · cases hc with
    | start size x hs hx ok => exact absurd rfl e
    | call i n ks vs e2 ok =>
      have hf := forms_kinds e2
      walk_at "gs"
      refine h_isT (hF _) ?_
      refine lcTI hL hF (fun p i H2 => (H p = none ∨ p ∈ []) ∧ Led K H [] H2 [(p, .raw (.lst (((forms.map (·.1)).take i).map V.str)))] []) (fun p H2 np h2 => ⟨np, h2⟩) ?_ ?_
      · rintro p j x d H2 hd hx ⟨np, h2⟩
        obtain ⟨r, hr, rfl⟩ := map_get hd
        obtain ⟨xa, rfl⟩ := hx.ref
        walk_at "gs"
        obtain ⟨acc2, a1, a2, a3⟩ := h_accL (y := .str r.1) 0 h2 rfl np (by rw [List.length_map, List.length_take, List.length_map, sizeLine_eq]; show min j 18 < _; omega)
        refine ⟨acc2, a1, a2, np, ?_⟩
        rw [List.take_add_one, List.getElem?_map, hr, List.map_append]
        exact a3
      · rintro p H2 ⟨np, h2⟩
        rw [List.take_of_length_le (Nat.le_refl 18)] at h2
        walk_at "gs"
        refine h_ixStr (h2.sqL 0 rfl) (j := i) (by rw [List.getElem?_map, e2]; rfl) (fun m y hm hy => ?_) ?_
        · obtain ⟨q, hq, rfl⟩ := map_get hy
          exact forms_ne e2 hm hq
        walk_at "gs"
        rename_i nb H3 nnb h3
        have h3 : Led K H [] H3 [(nb, .raw (.lst [.int ((i : Nat) + 1)]))] [] := h3.pick [0]
        clear h2
        refine h_ixIm (hF _) (by omega) (d := .tuple [.str n, .str ks]) (by rw [Int.toNat_natCast, List.getElem?_map, e2]; rfl) fun v hv => ?_
        obtain ⟨va, rfl⟩ := hv.ref
        walk_at "gs"
        refine ⟨_, rfl, ?_⟩
        refine lpES (fun t σ H2 => ∃ y5 y6 : Option V, σ = [some (.str n), some (.ref a), some (.ref p), some (.int (i : Nat)), some (.ref nb), y5, y6, none] ∧ Led K H [] H2 [(nb, .raw (.lst ((((i + 1 : Nat) : Int) :: encAs (ks.cps.toList.take t) (us.take t)).map V.int)))] [])
          ⟨_, _, rfl, h3⟩ ?_ ?_
        · clear h3
          rintro t c T σ H4 hc hT ⟨y5, y6, rfl, h4⟩
          have hc2 : ks.cps.toList[t]? = some c := by rw [Array.getElem?_toList]; exact hc
          obtain ⟨u, hu, oku⟩ := okAs_get ok hc2
          have h5 := h4.allocT hT (.cons (.int (t : Nat)) (.cons (.str ⟨#[c]⟩) .nil))
          clear h4
          have hlt : (encAs (ks.cps.toList.take t) (us.take t)).length ≤ 707 := by
            have q := congrArg List.length (encAs_split (i := t) ok)
            rw [List.length_append] at q
            have := encAs_len ok
            omega
          have hle := (encA_len oku).2
          walk_at "gs"
          refine h_ixTT (sqT_keep h5.kp NoT.nil hsq) (at_nn (by omega) (by rw [Int.toNat_natCast]; exact hu)) ?_
          refine ⟨c, u, rfl, oku, fun q H6 s6 nq hq => ?_⟩
          have h6 := h5.new (e := .raw (.lst ((encA c u).map V.int))) s6 nq hq
          clear h5
          refine h_extend 1 h6 rfl (h6.raw 0 rfl) nnb (by rw [List.length_map, List.length_map, List.length_cons, sizeLine_eq]; omega) fun H7 h7 => ?_
          refine ⟨_, _, rfl, ?_⟩
          rw [encAs_take ok hc2 hu, ← List.cons_append, List.map_append]
          exact (h7.pick [1]).noI
        · rintro σ H4 ⟨y5, y6, rfl, h4⟩
          clear h3
          walk_at "gs"
          have hl := okAs_len ok
          have hsz : ks.cps.size = ks.cps.toList.length := Array.length_toList.symm
          rw [hsz, List.take_of_length_le (Nat.le_refl _), List.take_of_length_le (by omega)] at h4
          exact k nb H4 h4.same0 (el0 nnb) (h4.raw 0 rfl)
def t_write_entry (K : PySem.W.Frag) (A : Ad) : TS :=
  (tSeq (tAsg (tCall (sp_write_content K A) [] E0 (tCons (mV 0) (tCons (mV 1) tNil))) (gName 2))
  (tRet (tOp (mAdd K) (tCall (sp_two_numbers K A) [] E0 (tCons (tCB (hLen K) (tCons (mV 2) tNil)) tNil)) (mV 2))))
theorem rd_write_entry {K : PySem.W.Frag} {A : Ad} {vs : List V} {H : Hp} {Q : VK} {E : XK} (h : sp_write_entry K A vs H Q E) : t_write_entry K A { nx := fun _ H' => Q .non H', rt := Q } (start ["name", "arguments", "content"] vs) H := by
  obtain ⟨n, a, us, c, rfl, hsq, hc, k⟩ := h
  show t_write_entry K A _ [some (.str n), some (.ref a), none] H
  unfold t_write_entry
  have hL : Led K H [] H [] [] := Led.start
  have hl := hc.len
  walk_at "gs"
  refine ⟨n, a, us, c, rfl, hsq, hc, fun p H1 s1 np hp => ?_⟩
  have h1 := hL.new (e := .raw (.lst (c.map V.int))) s1 np hp
  walk_at "gs"
  rw [List.length_map]
  refine ⟨c.length, rfl, by omega, fun q H2 s2 nq hq => ?_⟩
  have h2 := h1.new (e := .raw (.lst ((two c.length).map V.int))) s2 nq hq
  clear h1
  walk_at "gs"
  refine h_catG 0 1 h2 rfl rfl (by rw [List.length_map, List.length_map, sizeLine_eq]; show 2 + c.length ≤ _; omega) fun w H3 nw h3 => ?_
  rw [← List.map_append] at h3
  exact k w H3 h3.same0 (el0 nw) (h3.raw 0 rfl)

/-! ### what the reader tells, on numbers -/
def rdAt (A : Ad) (H : Hp) (a dx nu : Addr) (ns : List Int) (t : Nat) : Prop := H a = some (.ins A.c_Reading dx (rdF nu (.int t))) ∧ H nu = some (.lst (ns.map V.int)) ∧ ns.length ≤ 100000
def sp_Reading___init__ (K : PySem.W.Frag) (A : Ad) : Sp := fun vs H Q _ => ∃ a dx nu : Addr, vs = [.ref a, .ref nu] ∧ H a = some (.ins A.c_Reading dx []) ∧ ∀ H', KBs H H' [a] → H' a = some (.ins A.c_Reading dx (rdF nu (.int (0 : Nat)))) → Q .non H'
section
variable {K : PySem.W.Frag} {A : Ad} {H0 H : Hp} {S : List Addr} {L : List (Addr × Ent)} {I : List (V × PyData)} {Q : VK} {E : XK} {a dx nu : Addr} {ns : List Int} {t : Nat}
theorem Led.rd (n m : Nat) (h : Led K H0 S H L I) (e : L[n]? = some (a, .raw (.ins A.c_Reading dx (rdF nu (.int (t : Nat)))))) (e2 : L[m]? = some (nu, .raw (.lst (ns.map V.int)))) (hl : ns.length ≤ 100000) : rdAt A H a dx nu ns t := ⟨h.raw n e, h.raw m e2, hl⟩
theorem Led.wrI {u : V} {H' : Hp} (n : Nat) (h : Led K H0 S H L I) (e : L[n]? = some (a, .raw (.ins A.c_Reading dx (rdF nu (.int (t : Nat)))))) (kb : KBs H H' [a]) (he : H' a = some (.ins A.c_Reading dx (rdF nu u))) (hs : H0 a = none ∨ a ∈ S) : Led K H0 S H' (L.set n (a, .raw (.ins A.c_Reading dx (rdF nu u)))) I :=
  h.wr (e' := .raw (.ins A.c_Reading dx (rdF nu u))) n e kb (h.raw n e) rfl he hs
end
def SG : Str := " !\"#$&'()*+,-./0123456789:;<=>?@ABCDEFGHIJKLMNOPQRSTUVWXYZ[\\]^_`abcdefghijklmnopqrstuvwxyz{|}~"
theorem SG_at {c : Nat} (h : okS c = true) (h10 : c ≠ 10) : 32 ≤ c ∧ c ≤ 126 ∧ c ≠ 37 ∧ SG.cps.toList[c - 32 - (if c > 37 then 1 else 0)]? = some c := by
  have hb : 32 ≤ c ∧ c ≤ 126 ∧ c ≠ 37 := by
    unfold okS at h
    simp only [Bool.or_eq_true, Bool.and_eq_true, beq_iff_eq, decide_eq_true_eq, bne_iff_ne] at h
    omega
  have key : ∀ c < 127, 32 ≤ c → c ≠ 37 → SG.cps.toList[c - 32 - (if c > 37 then 1 else 0)]? = some c := by decide +kernel
  exact ⟨hb.1, hb.2.1, hb.2.2, key c (by omega) hb.1 hb.2.2⟩
theorem SG_len : SG.length = 94 := by decide +kernel
/-! ### one-sign texts -/
def ones (x : Str) : List Str := x.cps.toList.map fun c => ⟨#[c]⟩
theorem ones_sum (x : Str) : ((ones x).map (·.length)).sum = x.cps.size := by
  unfold ones
  rw [List.map_map, ← Array.length_toList]
  induction x.cps.toList with
  | nil => rfl
  | cons c l ih =>
    rw [List.map_cons, List.sum_cons, ih, List.length_cons]
    exact Nat.add_comm _ _
theorem join_l : ∀ l : List Nat, Str.join "" (l.map fun c => (⟨#[c]⟩ : Str)) = ⟨l.toArray⟩
  | [] => rfl
  | [_] => rfl
  | c :: d :: l => by
    have q := join_l (d :: l)
    show (⟨#[c]⟩ : Str) ++ "" ++ Str.join "" ((d :: l).map fun c => (⟨#[c]⟩ : Str)) = _
    rw [q]
    refine congrArg Str.mk (Array.toList_inj.mp ?_)
    show (#[c] ++ #[] ++ (d :: l).toArray).toList = _
    simp
theorem ones_join (x : Str) : Txt.join "" (ones x) = x := by
  show Builtin.Str.glued _ _ = _
  rw [StrLaws.glued_eq_join]
  unfold ones
  rw [join_l]
theorem h_argOr {p q : Prop} [Decidable p] [Decidable q] {b1 b2 : Bool} {t u : TS} {D : Ends} {σ : L2.St} {H : Hp} (h1 : (p ∧ b1 = true) ∨ (q ∧ b2 = true) → t D σ H) (h2 : ¬ (p ∧ b1 = true) → ¬ (q ∧ b2 = true) → u D σ H) :
    if decide p = true then (if b1 = true then Br true t u D σ H else if decide q = true then Br b2 t u D σ H else Br false t u D σ H) else (if false = true then Br true t u D σ H else if decide q = true then Br b2 t u D σ H else Br false t u D σ H) := by
  have part : ¬ (p ∧ b1 = true) → if decide q = true then Br b2 t u D σ H else Br false t u D σ H := fun n =>
    h_ite (fun c => h_brb (fun e => h1 (.inr ⟨c, e⟩)) fun e => h2 n fun z => by rw [e] at z; exact nomatch z.2) fun c => h_brF (h2 n fun z => c z.1)
  refine h_ite (fun c => ?_) (fun c => ?_)
  · cases b1 with
    | true => exact iteT (h_brT (h1 (.inl ⟨c, rfl⟩)))
    | false => exact iteF (part fun z => nomatch z.2)
  · exact iteF (part fun z => c z.1)
/-! ### the tables -/
def TbOk (ps : Array Value) : Prop := TriplesOk ps.toList
section
variable {K : PySem.W.Frag} {A : Ad} {H0 H H' : Hp} {S : List Addr} {L : List (Addr × Ent)} {I : List (V × PyData)} {Q : VK} {E : XK} {P P2 : Addr} {ps qs : Array Value}
theorem Led.tabG (n : Nat) (h : Led K H0 S H L I) (e : L[n]? = some (P, .raw (.tbl ps))) (ok : TbOk ps) : GxR.TabG H P := ⟨ps, h.raw n e, ok⟩
theorem Led.tabK (n : Nat) (h : Led K H0 S H L I) (e : L[n]? = some (P, .raw (.tbl ps))) (hs : P ∈ S) (kb : KBs H H' [P]) (t : GxR.TabG H' P) : ∃ qs, TbOk qs ∧ Led K H0 S H' (L.set n (P, .raw (.tbl qs))) I := by
  obtain ⟨qs, h1, h2⟩ := t
  exact ⟨qs, h2, h.wr (e' := .raw (.tbl qs)) n e kb (h.raw n e) rfl h1 (.inr hs)⟩
theorem Led.tabW (n : Nat) (h : Led K H0 S H L I) (e : L[n]? = some (P, .raw (.tbl ps))) (hs : P ∈ S) (t : GxR.Tabbed P H H') : ∃ qs, TbOk qs ∧ Led K H0 S H' (L.set n (P, .raw (.tbl qs))) I :=
  h.tabK n e hs (fun b o q hb => by rw [t.2 b (by simpa using hb)]; exact q) t.1
theorem Led.tab2 (n m : Nat) (h : Led K H0 S H L I) (e : L[n]? = some (P, .raw (.tbl ps))) (e2 : L[m]? = some (P2, .raw (.tbl qs))) (hnm : n ≠ m) (hs : P ∈ S) (hs2 : P2 ∈ S) (kb : KBs H H' [P, P2]) (t : GxR.TabG H' P) (t2 : GxR.TabG H' P2) :
    ∃ ps' qs', TbOk ps' ∧ TbOk qs' ∧ Led K H0 S H' ((L.set n (P, .raw (.tbl ps'))).set m (P2, .raw (.tbl qs'))) I := by
  let HM : Hp := fun a => if a = P then H' a else H a
  have k1 : KBs H HM [P] := fun b o q hb => by
    show (if b = P then H' b else H b) = _
    rw [if_neg (by simpa using hb)]
    exact q
  have k2 : KBs HM H' [P2] := fun b o q hb => by
    have q : (if b = P then H' b else H b) = some o := q
    by_cases c : b = P
    · rw [if_pos c] at q
      exact q
    · rw [if_neg c] at q
      exact kb b o q (by simp only [List.mem_cons, List.not_mem_nil, or_false] at hb ⊢; exact fun z => z.elim c hb)
  have tM : GxR.TabG HM P := by
    obtain ⟨x, x1, x2⟩ := t
    exact ⟨x, by show (if P = P then H' P else H P) = _; rw [if_pos rfl]; exact x1, x2⟩
  obtain ⟨p', o1, h1⟩ := h.tabK n e hs k1 tM
  obtain ⟨q', o2, h2⟩ := h1.tabK m (by rw [List.getElem?_set_ne hnm]; exact e2) hs2 k2 t2
  exact ⟨p', q', o1, o2, h2⟩
theorem Led.addE {p : Addr} {e : Ent} (h : Led K H0 S H L I) (hp : p ∉ L.map (·.1)) (he : EntAt K H p e) : Led K H0 S H ((p, e) :: L) I := Led.cons h he hp
theorem h_any {a : Addr} {ns : List Int} {pb : Int → Bool} (n m : Nat) (h : Led K H0 S H L I) (e : L[n]? = some (P, .raw (.tbl ps))) (e2 : L[m]? = some (a, .raw (.lst (ns.map V.int)))) (ok : TbOk ps) (hs : P ∈ S) (hf : ∀ z ∈ ns, pb z = false) (k : ∀ qs H', TbOk qs → Led K H0 S H' (L.set n (P, .raw (.tbl qs))) I → Q (.bl false) H') : anyK K P pb (.ref a) H Q := by
  refine ⟨a, ns, rfl, h.sqL m e2, h.tabG n e ok, fun H2 t => ?_⟩
  obtain ⟨qs, o, h2⟩ := h.tabW n e hs t
  rw [List.any_eq_false.mpr fun z hz => by rw [hf z hz]; exact Bool.false_ne_true]
  exact k qs H2 o h2
theorem h_tupOfR {a : Addr} {xs : List V} {ds : List PyData} (n : Nat) (h : Led K H0 S H L I) (e : L[n]? = some (a, .raw (.lst xs))) (hd : Ims K H xs ds) (k : ∀ p H', Led K H0 S H' L ((.ref p, .tuple ds) :: I) → Q (.ref p) H') : hTupOf K [.ref a] H Q :=
  ⟨a, xs, rfl, .inl ⟨h.sqL n e, fun p hp => k p _ (h.allocT hp hd)⟩⟩
theorem okA_im {k : Nat} {v : V} (h : okA k v) : Im K H v (vD v) := by
  cases v with
  | int i => exact .int i
  | str x => exact .str x
  | bl b => exact .bl b
  | non => exact .non
  | byt b => exact h.elim
  | flt b => exact h.elim
  | ref a => exact h.elim
  | ty t => exact h.elim
theorem okAs_ims : ∀ {ks : List Nat} {vs : List V}, okAs ks vs → Ims K H vs (vs.map vD)
  | [], [], _ => .nil
  | [], _ :: _, h => h.elim
  | _ :: _, [], h => h.elim
  | k :: ks, v :: vs, h => .cons (okA_im h.1) (okAs_ims h.2)
end
/-! ### the reading, on numbers -/
def byt (ns : List Int) : Prop := ∀ z ∈ ns, 0 ≤ z ∧ z < 256
def pInt (ns : List Int) (t : Nat) (s : Int) : Option Int :=
  if t + 4 ≤ ns.length then (if 1 < s ∨ (s = 1 ∧ vn 256 ((ns.drop t).take 4) = 0) then none else some (if s = 1 then 0 - vn 256 ((ns.drop t).take 4) else vn 256 ((ns.drop t).take 4))) else none
def pChar (z : Int) : Option Nat := if z = 10 then some 10 else if z = 37 ∨ z - 32 - (if z > 37 then 1 else 0) < 0 ∨ z - 32 - (if z > 37 then 1 else 0) ≥ 94 then none else SG.cps.toList[(z - 32 - (if z > 37 then 1 else 0)).toNat]?
def pChr (ns : List Int) (t : Nat) : Option Nat := ns[t]?.bind pChar
def pChars (ns : List Int) (t : Nat) : Nat → Option (List Nat)
  | 0 => some []
  | m + 1 => (pChars ns t m).bind fun l => (pChr ns (t + m)).map fun c => l ++ [c]
def pArg (ns : List Int) (t k : Nat) : Option (V × Nat) := ns[t]?.bind fun z =>
  if k = 98 then (if z > 1 then none else some (.bl (decide (z = 1)), t + 1))
  else if (k = 73 ∧ z = 2) ∨ (k = 84 ∧ z = 255) then some (.non, t + 1)
  else if k = 105 ∨ k = 73 then (pInt ns (t + 1) z).map fun i => (.int i, t + 1 + 4)
  else if z = 255 then none
  else (pChars ns (t + 1) z.toNat).map fun l => (.str ⟨l.toArray⟩, t + 1 + z.toNat)
def pArgs (ns : List Int) (ks : List Nat) : Nat → Option (List V × Nat)
  | 0 => some ([], 1)
  | m + 1 => (pArgs ns ks m).bind fun r => (ks[m]?).bind fun k => (pArg ns r.2 k).map fun q => (r.1 ++ [q.1], q.2)
def pEntry (c : List Int) : Option (Str × List V) :=
  if (c.any fun z => decide (z < 0) || decide (256 ≤ z)) = true then none
  else c[0]?.bind fun z =>
    if z = 0 then c[1]?.bind fun a => c[2]?.bind fun b => (pChars c 3 (c.length - 3)).map fun l => ("start", [.int (a + 256 * b), .str ⟨l.toArray⟩])
    else if z > 18 then none
    else forms[(z - 1).toNat]?.bind fun f => (pArgs c f.2.cps.toList f.2.cps.toList.length).bind fun r => if r.2 = c.length then some (f.1, r.1) else none
def jr : Nat → List Int → Bool → Nat → Int
  | 0, _, _, _ => 0
  | f + 1, l, first, place => match l with
    | x :: y :: r =>
      if (x < 0 ∨ 256 ≤ x) ∨ (y < 0 ∨ 256 ≤ y) then place
      else if (r.length : Int) < x + 256 * y then (if first = true then 0 else -1)
      else match pEntry (r.take (x + 256 * y).toNat) with
        | none => place
        | some e => if decide (e.1 = ("start" : Str)) = first then jr f (r.drop (x + 256 * y).toNat) false (place + 2 + (x + 256 * y).toNat) else place
    | _ => if first = true then 0 else -1
/-! ### the promises of the reading -/
def sp_Reading_next (K : PySem.W.Frag) (A : Ad) : Sp := fun vs H Q E => ∃ (a dx nu : Addr) (ns : List Int) (t : Nat), vs = [.ref a] ∧ rdAt A H a dx nu ns t ∧
  (∀ z, ns[t]? = some z → ∀ H', KBs H H' [a] → H' a = some (.ins A.c_Reading dx (rdF nu (.int (t + 1 : Nat)))) → Q (.int z) H') ∧ (ns[t]? = none → ∀ H', KBs H H' [a] → E (.ref A.c_NoEntry) none H')
def sp_Reading_integer (K : PySem.W.Frag) (A : Ad) : Sp := fun vs H Q E => ∃ (a dx nu : Addr) (ns : List Int) (t : Nat) (s : Int), vs = [.ref a, .int s] ∧ rdAt A H a dx nu ns t ∧
  (∀ i, pInt ns t s = some i → ∀ H', KBs H H' [a] → H' a = some (.ins A.c_Reading dx (rdF nu (.int (t + 4 : Nat)))) → Q (.int i) H') ∧ (pInt ns t s = none → ∀ H', KBs H H' [a] → E (.ref A.c_NoEntry) none H')
def sp_Reading_character (K : PySem.W.Frag) (A : Ad) : Sp := fun vs H Q E => ∃ (a dx nu : Addr) (ns : List Int) (t : Nat), vs = [.ref a] ∧ rdAt A H a dx nu ns t ∧
  (∀ c, pChr ns t = some c → ∀ H', KBs H H' [a] → H' a = some (.ins A.c_Reading dx (rdF nu (.int (t + 1 : Nat)))) → Q (.str ⟨#[c]⟩) H') ∧ (pChr ns t = none → ∀ H', KBs H H' [a] → E (.ref A.c_NoEntry) none H')
def sp_Reading_characters (K : PySem.W.Frag) (A : Ad) : Sp := fun vs H Q E => ∃ (a dx nu : Addr) (ns : List Int) (t m : Nat), vs = [.ref a, .int m] ∧ rdAt A H a dx nu ns t ∧ m ≤ 100000 ∧
  (∀ l, pChars ns t m = some l → ∀ H', KBs H H' [a] → H' a = some (.ins A.c_Reading dx (rdF nu (.int (t + m : Nat)))) → Q (.str ⟨l.toArray⟩) H') ∧ (pChars ns t m = none → ∀ H', KBs H H' [a] → E (.ref A.c_NoEntry) none H')
def sp_Reading_argument (K : PySem.W.Frag) (A : Ad) : Sp := fun vs H Q E => ∃ (a dx nu : Addr) (ns : List Int) (t k : Nat), vs = [.ref a, .str ⟨#[k]⟩] ∧ rdAt A H a dx nu ns t ∧ byt ns ∧
  (∀ v u, pArg ns t k = some (v, u) → ∀ H', KBs H H' [a] → H' a = some (.ins A.c_Reading dx (rdF nu (.int (u : Nat)))) → Q v H') ∧ (pArg ns t k = none → ∀ H', KBs H H' [a] → E (.ref A.c_NoEntry) none H')
def sp_read_entry (K : PySem.W.Frag) (A : Ad) : Sp := fun vs H Q E => ∃ (nu : Addr) (c : List Int), vs = [.ref nu] ∧ H nu = some (.lst (c.map V.int)) ∧ c.length ≤ 100000 ∧ GxR.TabG H (A.t 0) ∧
  (∀ n us, pEntry c = some (n, us) → ∀ v H', KBs H H' [A.t 0] → GxR.TabG H' (A.t 0) → Im K H' v (.tuple [.str n, .tuple (us.map vD)]) → Q v H') ∧ (pEntry c = none → ∀ H', KBs H H' [A.t 0] → GxR.TabG H' (A.t 0) → E (.ref A.c_NoEntry) none H')
def Tabs (A : Ad) (H : Hp) : Prop := A.t 0 ≠ A.t 1 ∧ GxR.TabG H (A.t 0) ∧ GxR.TabG H (A.t 1)
theorem Tabs.same {A : Ad} {H H' : Hp} (t : Tabs A H) (s : Same H H') : Tabs A H' := by
  obtain ⟨h, ⟨p, p1, p2⟩, ⟨q, q1, q2⟩⟩ := t
  exact ⟨h, ⟨p, s _ _ p1, p2⟩, ⟨q, s _ _ q1, q2⟩⟩
def sp_read_journal (K : PySem.W.Frag) (A : Ad) : Sp := fun vs H Q E => ∃ (nu : Addr) (ns : List Int), vs = [.ref nu] ∧ H nu = some (.lst (ns.map V.int)) ∧ ns.length ≤ 100000 ∧ Tabs A H ∧
  (jr (ns.length + 1) ns true 0 = -1 → ∀ p H', KBs H H' [A.t 0, A.t 1] → Tabs A H' → H p = none → Q (.ref p) H') ∧
  (∀ R, jr (ns.length + 1) ns true 0 = R → R ≠ -1 → ∀ d H', KBs H H' [A.t 0, A.t 1] → Tabs A H' → H' d = some (.xd [("place", .int R)]) → E (.ref A.c_BadJournal) (some d) H')
def sp__law_read (K : PySem.W.Frag) (A : Ad) : Sp := fun vs H Q _ => ∃ (nu : Addr) (ns : List Int), vs = [.ref nu] ∧ H nu = some (.lst (ns.map V.int)) ∧ ns.length ≤ 100000 ∧ Tabs A H ∧
  ∀ H', KBs H H' [A.t 0, A.t 1] → Tabs A H' → Q (.int (jr (ns.length + 1) ns true 0)) H'
theorem pChars_up {ns : List Int} {t i m : Nat} (h : pChars ns t i = none) (hm : i ≤ m) : pChars ns t m = none := by
  induction hm with
  | refl => exact h
  | step _ ih => show (pChars ns t _).bind _ = none; rw [ih]; rfl
theorem pArgs_up {ns : List Int} {ks : List Nat} {i m : Nat} (h : pArgs ns ks i = none) (hm : i ≤ m) : pArgs ns ks m = none := by
  induction hm with
  | refl => exact h
  | step _ ih => show (pArgs ns ks _).bind _ = none; rw [ih]; rfl
theorem pChars_len {ns : List Int} {t : Nat} : ∀ {m : Nat} {l : List Nat}, pChars ns t m = some l → l.length = m
  | 0, l, h => by cases h; rfl
  | m + 1, l, h => by
    have h : (pChars ns t m).bind (fun l => (pChr ns (t + m)).map fun c => l ++ [c]) = some l := h
    cases e : pChars ns t m with
    | none => rw [e] at h; exact nomatch h
    | some l0 =>
      rw [e] at h
      have h : (pChr ns (t + m)).map (fun c => l0 ++ [c]) = some l := h
      cases e2 : pChr ns (t + m) with
      | none => rw [e2] at h; exact nomatch h
      | some c =>
        rw [e2] at h
        cases h
        rw [List.length_append, pChars_len e]
        rfl

def t_Reading___init__ (K : PySem.W.Frag) (A : Ad) : TS :=
  (tSeq (sFld K (mV 0) (mV 1) "numbers")
  (sFld K (mV 0) (tC (.int 0)) "at"))
theorem rd_Reading___init__ {K : PySem.W.Frag} {A : Ad} {vs : List V} {H : Hp} {Q : VK} {E : XK} (C : XC K A) (h : sp_Reading___init__ K A vs H Q E) : t_Reading___init__ K A { nx := fun _ H' => Q .non H', rt := Q } (start ["self", "numbers"] vs) H := by
  obtain ⟨a, dx, nu, rfl, ha, k⟩ := h
  show t_Reading___init__ K A _ [some (.ref a), some (.ref nu)] H
  unfold t_Reading___init__
  have cR := C.cf_Reading
  have hL : Led K H [a] H [(a, .raw (.ins A.c_Reading dx []))] [] := Led.mk1 ha
  walk_at "gs"
  rename_i H1 h1 H2 h2
  exact k H2 h2.kp (h2.raw 0 rfl)
def t_Reading_next (K : PySem.W.Frag) (A : Ad) (W : WX) : TS :=
  (tSeq (mIf (mTest (tOp mGe (tFld K (mV 0) "at") (tCB (hLen K) (tCons (tFld K (mV 0) "numbers") tNil))))
    (mRaise0 A.c_NoEntry W)
    tNext)
  (tSeq (sFldAug K (mV 0) (tC (.int 1)) mIAdd "at")
  (tRet (tOp (rIx K) (tFld K (mV 0) "numbers") (tOp mSub (tFld K (mV 0) "at") (tC (.int 1)))))))
theorem rd_Reading_next {K : PySem.W.Frag} {A : Ad} {vs : List V} {H : Hp} {Q : VK} {E : XK} (C : XC K A) (h : sp_Reading_next K A vs H Q E) : t_Reading_next K A (fun cls d _ H => E cls d H) { nx := fun _ H' => Q .non H', rt := Q } (start ["self"] vs) H := by
  obtain ⟨a, dx, nu, ns, t, rfl, ⟨ha, hn, hl⟩, k, ke⟩ := h
  show t_Reading_next K A _ _ [some (.ref a)] H
  unfold t_Reading_next
  have cR := C.cf_Reading
  have hne : a ≠ nu := fun e => by rw [e, hn] at ha; exact nomatch ha
  have hL : Led K H [a] H [(a, .raw (.ins A.c_Reading dx (rdF nu (.int (t : Nat))))), (nu, .raw (.lst (ns.map V.int)))] [] := Led.mk2 ha hn hne
  walk_at "gs"
  rw [List.length_map]
  refine h_br (fun c => ?_) (fun c => ?_)
  · walk_at "gs"
    exact ke (List.getElem?_eq_none (by omega)) H hL.kp
  have ht : t < ns.length := by omega
  walk_at "gs"
  rename_i H1 h1
  refine h_ixL 1 h1 rfl (v := .int ns[t]) (at_nn (by omega) (by rw [show ((t : Int) + 1 - 1).toNat = t by omega, List.getElem?_map, List.getElem?_eq_getElem ht]; rfl)) ?_
  exact k _ (List.getElem?_eq_getElem ht) H1 h1.kp (h1.raw 0 rfl)
def t_Reading_integer (K : PySem.W.Frag) (A : Ad) (W : WX) : TS :=
  (tSeq (tAsg (tC (.int 0)) (gName 2))
  (tSeq (tAsg (tC (.int 1)) (gName 3))
  (tSeq (tFor (jR1 (tCons (tC (.int 4)) tNil)) (gName 4)
    (tSeq (mAug 2 (tOp mMul (mV 3) (tMethE A.c_Reading "next" (sp_Reading_next K A) (WE W) (mV 0) tNil)) mIAdd)
  (tAsg (tOp mMul (mV 3) (tC (.int 256))) (gName 3))))
  (tSeq (mIf (tOr (mTest (tOp mGt (mV 1) (tC (.int 1)))) (tAnd (mTest (tOp (mEq K) (mV 1) (tC (.int 1)))) (mTest (tOp (mEq K) (mV 2) (tC (.int 0))))))
    (mRaise0 A.c_NoEntry W)
    tNext)
  (tRet (mIfE (mTest (tOp (mEq K) (mV 1) (tC (.int 1)))) (tOp mSub (tC (.int 0)) (mV 2)) (mV 2)))))))
theorem rd_Reading_integer {K : PySem.W.Frag} {A : Ad} {vs : List V} {H : Hp} {Q : VK} {E : XK} (C : XC K A) (h : sp_Reading_integer K A vs H Q E) : t_Reading_integer K A (fun cls d _ H => E cls d H) { nx := fun _ H' => Q .non H', rt := Q } (start ["self", "sign", "value", "unit", "_"] vs) H := by
  obtain ⟨a, dx, nu, ns, t, s, rfl, ⟨ha, hn, hl⟩, k, ke⟩ := h
  show t_Reading_integer K A _ _ [some (.ref a), some (.int s), none, none, none] H
  unfold t_Reading_integer
  have cR := C.cf_Reading
  have hne : a ≠ nu := fun e => by rw [e, hn] at ha; exact nomatch ha
  have hL : Led K H [a] H [(a, .raw (.ins A.c_Reading dx (rdF nu (.int (t : Nat))))), (nu, .raw (.lst (ns.map V.int)))] [] := Led.mk2 ha hn hne
  walk_at "gs"
  refine lpR (fun u σ H2 => ∃ y : Option V, σ = [some (.ref a), some (.int s), some (.int (vn 256 ((ns.drop t).take u))), some (.int (256 ^ u)), y] ∧ (u = 0 ∨ t + u ≤ ns.length) ∧ Led K H [a] H2 [(a, .raw (.ins A.c_Reading dx (rdF nu (.int (t + u : Nat))))), (nu, .raw (.lst (ns.map V.int)))] [])
    ⟨_, by rfl, .inl rfl, hL⟩ ?_ ?_
  · clear hL
    rintro u σ H2 hu ⟨y, rfl, hlen, h2⟩
    have hu : u < 4 := hu
    have hpu : 1 ≤ (256 : Int) ^ u ∧ (256 : Int) ^ u ≤ 16777216 := by
      rcases (show u = 0 ∨ u = 1 ∨ u = 2 ∨ u = 3 by omega) with rfl | rfl | rfl | rfl <;> decide
    have hps : (256 : Int) ^ (u + 1) = 256 ^ u * 256 := Int.pow_succ _ _
    have hv : ∀ g, ns[t + u]? = some g → vn 256 ((ns.drop t).take (u + 1)) = vn 256 ((ns.drop t).take u) + 256 ^ u * g := fun g hg => by
      have hlt : t + u < ns.length := (List.getElem?_eq_some_iff.mp hg).1
      rw [List.take_add_one, List.getElem?_drop, hg]
      show vn 256 (_ ++ [g]) = _
      rw [vn_app, List.length_take, List.length_drop, Nat.min_eq_left (by omega)]
      show _ + _ * (g + 256 * 0) = _
      rw [Int.mul_zero, Int.add_zero]
    rw [hps]
    generalize hpe : (256 : Int) ^ u = pu at hpu hv ⊢
    walk_at "gs"
    refine ⟨a, dx, nu, ns, t + u, rfl, h2.rd 0 1 rfl rfl hl, fun g hg H3 kb he => ?_, fun hg H3 kb => ?_⟩
    · have h3 := h2.wrI 0 rfl kb he (.inr (by simp))
      clear h2
      have hlt : t + u < ns.length := (List.getElem?_eq_some_iff.mp hg).1
      walk_at "gs"
      exact ⟨_, by rw [hv g hg], .inr (by omega), h3⟩
    · refine ke ?_ H3 (h2.kp.trans kb)
      have := List.getElem?_eq_none_iff.mp hg
      unfold pInt
      rw [if_neg (by omega)]
  · clear hL
    rintro σ H2 ⟨y, rfl, hlen, h2⟩
    have hlen : t + 4 ≤ ns.length := hlen.elim (fun z => nomatch z) id
    have h2 : Led K H [a] H2 [(a, .raw (.ins A.c_Reading dx (rdF nu (.int (t + 4 : Nat))))), (nu, .raw (.lst (ns.map V.int)))] [] := h2
    have hpi : pInt ns t s = if 1 < s ∨ (s = 1 ∧ vn 256 ((ns.drop t).take 4) = 0) then none else some (if s = 1 then 0 - vn 256 ((ns.drop t).take 4) else vn 256 ((ns.drop t).take 4)) := if_pos hlen
    rw [hpi] at k ke
    have e4 : Int.toNat 4 = 4 := rfl
    rw [e4]
    generalize vn 256 ((ns.drop t).take 4) = w at k ke ⊢
    walk_at "gs"
    refine h_ite (fun c => ?_) (fun c => ?_)
    · refine h_brT ?_
      walk_at "gs"
      exact ke (if_pos (.inl c)) H2 h2.kp
    · refine h_ite (fun c1 => ?_) (fun c1 => ?_)
      · refine h_br (fun c2 => ?_) (fun c2 => ?_)
        · walk_at "gs"
          exact ke (if_pos (.inr ⟨c1, c2⟩)) H2 h2.kp
        · walk_at "gs"
          refine h_brE (fun _ => ?_) fun z => absurd c1 z
          walk_at "gs"
          exact k _ (by rw [if_neg (by omega), if_pos c1]) H2 h2.kp (h2.raw 0 rfl)
      · refine h_brF ?_
        walk_at "gs"
        refine h_brE (fun z => absurd z c1) fun _ => ?_
        walk_at "gs"
        exact k _ (by rw [if_neg (by omega), if_neg c1]) H2 h2.kp (h2.raw 0 rfl)
def t_Reading_character (K : PySem.W.Frag) (A : Ad) (W : WX) : TS :=
  (tSeq (tAsg (tMethE A.c_Reading "next" (sp_Reading_next K A) (WE W) (mV 0) tNil) (gName 1))
  (tSeq (mIf (mTest (tOp (mEq K) (mV 1) (tC (.int 10))))
    (tRet (tC (.str "\n")))
    tNext)
  (tSeq (tAsg (tOp mSub (tOp mSub (mV 1) (tC (.int 32))) (mIfE (mTest (tOp mGt (mV 1) (tC (.int 37)))) (tC (.int 1)) (tC (.int 0)))) (gName 2))
  (tSeq (mIf (tOr (mTest (tOp (mEq K) (mV 1) (tC (.int 37)))) (tOr (mTest (tOp mLt (mV 2) (tC (.int 0)))) (mTest (tOp mGe (mV 2) (tCB (hLen K) (tCons (tC (.str " !\"#$&'()*+,-./0123456789:;<=>?@ABCDEFGHIJKLMNOPQRSTUVWXYZ[\\]^_`abcdefghijklmnopqrstuvwxyz{|}~")) tNil))))))
    (mRaise0 A.c_NoEntry W)
    tNext)
  (tRet (tOp (rIx K) (tC (.str " !\"#$&'()*+,-./0123456789:;<=>?@ABCDEFGHIJKLMNOPQRSTUVWXYZ[\\]^_`abcdefghijklmnopqrstuvwxyz{|}~")) (mV 2)))))))
theorem rd_Reading_character {K : PySem.W.Frag} {A : Ad} {vs : List V} {H : Hp} {Q : VK} {E : XK} (C : XC K A) (h : sp_Reading_character K A vs H Q E) : t_Reading_character K A (fun cls d _ H => E cls d H) { nx := fun _ H' => Q .non H', rt := Q } (start ["self", "number", "place"] vs) H := by
  obtain ⟨a, dx, nu, ns, t, rfl, hr, k, ke⟩ := h
  show t_Reading_character K A _ _ [some (.ref a), none, none] H
  unfold t_Reading_character
  have cR := C.cf_Reading
  have hne : a ≠ nu := fun e => by have h1 := hr.1; rw [e, hr.2.1] at h1; exact nomatch h1
  have hL : Led K H [a] H [(a, .raw (.ins A.c_Reading dx (rdF nu (.int (t : Nat))))), (nu, .raw (.lst (ns.map V.int)))] [] := Led.mk2 hr.1 hr.2.1 hne
  walk_at "gs"
  refine ⟨a, dx, nu, ns, t, rfl, hr, fun z hz H1 kb he => ?_, fun hz H1 kb => ke (by unfold pChr; rw [hz]; rfl) H1 kb⟩
  have h1 := hL.wrI 0 rfl kb he (.inr (by simp))
  clear hL
  have ec : pChr ns t = pChar z := by unfold pChr; rw [hz]; rfl
  rw [ec] at k ke
  unfold pChar at k ke
  walk_at "gs"
  refine h_br (fun e => ?_) (fun e => ?_)
  · walk_at "gs"
    rw [show ("\n" : Str) = ⟨#[10]⟩ by decide]
    exact k 10 (if_pos e) H1 h1.kp (h1.raw 0 rfl)
  · rw [if_neg e] at k ke
    walk_at "gs"
    refine h_brEv (.int (if z > 37 then 1 else 0)) (fun c1 Q' q => ?_) (fun c1 Q' q => ?_) ?_
    · rw [if_pos (show z > 37 from of_decide_eq_true c1)] at q
      exact q
    · rw [if_neg (show ¬ z > 37 from of_decide_eq_false c1)] at q
      exact q
    walk_at "gs"
    generalize z - 32 - (if z > 37 then 1 else 0) = pl at k ke ⊢
    have fin : z = 37 ∨ pl < 0 ∨ pl ≥ 94 → E (.ref A.c_NoEntry) none H1 := fun c => ke (if_pos c) H1 h1.kp
    refine h_ite (fun c => h_brT ?_) fun c1 => ?_
    · walk_at "gs"
      exact fin (.inl c)
    refine h_ite (fun c => h_brT ?_) fun c2 => ?_
    · walk_at "gs"
      exact fin (.inr (.inl c))
    refine h_lenS (z := SG) (by rw [SG_len, sizeLine_eq]; decide) ?_
    walk_at "gs"
    refine h_br (fun c => ?_) fun c3 => ?_
    · walk_at "gs"
      exact fin (.inr (.inr (by rw [SG_len] at c; omega)))
    rw [SG_len] at c3
    walk_at "gs"
    have hlt : pl.toNat < SG.cps.toList.length := by
      have q : SG.cps.toList.length = 94 := by rw [Array.length_toList]; exact SG_len
      omega
    refine .inr (.inr ⟨SG, pl, SG.cps.toList[pl.toNat], rfl, rfl, by rw [SG_len, sizeLine_eq]; decide, at_nn (by omega) (List.getElem?_eq_getElem hlt), k _ ?_ H1 h1.kp (h1.raw 0 rfl)⟩)
    rw [if_neg (by omega)]
    exact List.getElem?_eq_getElem hlt
def t_Reading_characters (K : PySem.W.Frag) (A : Ad) (W : WX) : TS :=
  (tRet (tJoin K "" (tLcW (jR1 (tCons (mV 1) tNil)) (gName 2) tYes (fun Wc => (tMethE A.c_Reading "character" (sp_Reading_character K A) (WE Wc) (mV 0) tNil)) [2] W)))
theorem rd_Reading_characters {K : PySem.W.Frag} {A : Ad} {vs : List V} {H : Hp} {Q : VK} {E : XK} (C : XC K A) (h : sp_Reading_characters K A vs H Q E) : t_Reading_characters K A (fun cls d _ H => E cls d H) { nx := fun _ H' => Q .non H', rt := Q } (start ["self", "many", "_"] vs) H := by
  obtain ⟨a, dx, nu, ns, t, m, rfl, ⟨ha, hn, hl⟩, hm, k, ke⟩ := h
  show t_Reading_characters K A _ _ [some (.ref a), some (.int (m : Nat)), none] H
  unfold t_Reading_characters
  have cR := C.cf_Reading
  have hne : a ≠ nu := fun e => by rw [e, hn] at ha; exact nomatch ha
  have hL : Led K H [a] H [(a, .raw (.ins A.c_Reading dx (rdF nu (.int (t : Nat))))), (nu, .raw (.lst (ns.map V.int)))] [] := Led.mk2 ha hn hne
  walk_at "gs"
  refine lcR hL (fun p i H2 => ∃ l, pChars ns t i = some l ∧ (H p = none ∨ p ∈ [a]) ∧ Led K H [a] H2 [(p, .raw (.lst ((l.map fun c => (⟨#[c]⟩ : Str)).map V.str))), (a, .raw (.ins A.c_Reading dx (rdF nu (.int (t + i : Nat))))), (nu, .raw (.lst (ns.map V.int)))] []) (fun p H2 np h2 => ⟨[], rfl, np, h2⟩) ?_ ?_
  · clear hL
    rintro p i H2 hi ⟨l, hpl, np, h2⟩
    have hi : i < m := by omega
    have hll := pChars_len hpl
    walk_at "gs"
    refine ⟨a, dx, nu, ns, t + i, rfl, h2.rd 1 2 rfl rfl hl, fun c hc H3 kb he => ?_, fun hc H3 kb => ?_⟩
    · have h3 := h2.wrI 1 rfl kb he (.inr (by simp))
      clear h2
      obtain ⟨acc2, a1, a2, a3⟩ := h_accL (y := .str ⟨#[c]⟩) 0 h3 rfl np (by rw [List.length_map, List.length_map, sizeLine_eq]; omega)
      refine ⟨acc2, a1, a2, l ++ [c], ?_, np, ?_⟩
      · show (pChars ns t i).bind _ = _
        rw [hpl]
        show (pChr ns (t + i)).map _ = _
        rw [hc]
        rfl
      · rw [List.map_append, List.map_append]
        exact a3
    · refine ke (pChars_up (i := i + 1) ?_ hi) H3 (h2.kp.trans kb)
      show (pChars ns t i).bind _ = _
      rw [hpl]
      show (pChr ns (t + i)).map _ = _
      rw [hc]
      rfl
  · clear hL
    rintro p H2 ⟨l, hpl, np, h2⟩
    rw [Int.toNat_natCast] at hpl h2
    have hll := pChars_len hpl
    refine ⟨p, l.map fun c => (⟨#[c]⟩ : Str), rfl, h2.sqL 0 rfl, ?_, ?_⟩
    · have q := ones_sum ⟨l.toArray⟩
      unfold ones at q
      rw [List.toList_toArray] at q
      rw [q, List.length_map, show ("" : Str).length = 0 by decide]
      show l.toArray.size + _ ≤ _
      rw [List.size_toArray]
      omega
    · have q := ones_join ⟨l.toArray⟩
      unfold ones at q
      rw [List.toList_toArray] at q
      rw [q]
      exact k l hpl H2 h2.kp (h2.raw 1 rfl)

/-! ### values that stand for themselves -/
def sV : V → Bool
  | .bl _ => true
  | .int _ => true
  | .str _ => true
  | .non => true
  | _ => false
theorem sV_im {K : PySem.W.Frag} {H : Hp} {v : V} (h : sV v = true) : Im K H v (vD v) := by
  cases v with
  | int i => exact .int i
  | str x => exact .str x
  | bl b => exact .bl b
  | non => exact .non
  | byt b => exact absurd h Bool.false_ne_true
  | flt b => exact absurd h Bool.false_ne_true
  | ref a => exact absurd h Bool.false_ne_true
  | ty t => exact absurd h Bool.false_ne_true
theorem sVs_im {K : PySem.W.Frag} {H : Hp} : ∀ {vs : List V}, (∀ v ∈ vs, sV v = true) → Ims K H vs (vs.map vD)
  | [], _ => .nil
  | v :: vs, h => .cons (sV_im (h v List.mem_cons_self)) (sVs_im fun u hu => h u (List.mem_cons_of_mem _ hu))
theorem pArg_sV {ns : List Int} {t k : Nat} {r : V × Nat} (h : pArg ns t k = some r) : sV r.1 = true := by
  unfold pArg at h
  cases hz : ns[t]? with
  | none => rw [hz] at h; exact nomatch h
  | some z =>
    rw [hz] at h
    simp only [Option.bind_some] at h
    split at h
    · split at h
      · exact nomatch h
      · cases h; rfl
    · split at h
      · cases h; rfl
      · split at h
        · cases hi : pInt ns (t + 1) z with
          | none => rw [hi] at h; exact nomatch h
          | some i => rw [hi] at h; cases h; rfl
        · split at h
          · exact nomatch h
          · cases hc : pChars ns (t + 1) z.toNat with
            | none => rw [hc] at h; exact nomatch h
            | some l => rw [hc] at h; cases h; rfl
theorem pArgs_sV {ns : List Int} {ks : List Nat} : ∀ {m : Nat} {r : List V × Nat}, pArgs ns ks m = some r → r.1.length = m ∧ ∀ v ∈ r.1, sV v = true
  | 0, r, h => by cases h; exact ⟨rfl, fun v hv => nomatch hv⟩
  | m + 1, r, h => by
    have h : (pArgs ns ks m).bind (fun r => (ks[m]?).bind fun k => (pArg ns r.2 k).map fun q => (r.1 ++ [q.1], q.2)) = some r := h
    cases e : pArgs ns ks m with
    | none => rw [e] at h; exact nomatch h
    | some r0 =>
      rw [e] at h
      simp only [Option.bind_some] at h
      cases ek : ks[m]? with
      | none => rw [ek] at h; exact nomatch h
      | some k =>
        rw [ek] at h
        simp only [Option.bind_some] at h
        cases ea : pArg ns r0.2 k with
        | none => rw [ea] at h; exact nomatch h
        | some q =>
          rw [ea] at h
          cases h
          obtain ⟨i1, i2⟩ := pArgs_sV e
          refine ⟨by rw [List.length_append, i1]; rfl, fun v hv => ?_⟩
          rcases List.mem_append.mp hv with hv | hv
          · exact i2 v hv
          · rw [List.mem_singleton.mp hv]
            exact pArg_sV ea
theorem kbs_drop {H H1 H2 : Hp} {S : List Addr} {a : Addr} (k1 : KBs H H1 S) (k2 : KBs H1 H2 [a]) (na : H a = none ∨ a ∈ S) : KBs H H2 S := fun b o q hb => k2 b o (k1 b o q hb) (by
  simp only [List.mem_cons, List.not_mem_nil, or_false]
  intro e
  rw [e] at q hb
  rcases na with z | z
  · rw [z] at q
    exact nomatch q
  · exact hb z)
section
variable {K : PySem.W.Frag} {A : Ad} {H0 H H' : Hp} {S : List Addr} {L : List (Addr × Ent)} {I : List (V × PyData)} {Q : VK} {P : Addr} {ps : Array Value}
theorem h_anyG {a : Addr} {ns : List Int} {pb : Int → Bool} (n m : Nat) (h : Led K H0 S H L I) (e : L[n]? = some (P, .raw (.tbl ps))) (e2 : L[m]? = some (a, .raw (.lst (ns.map V.int)))) (ok : TbOk ps) (hs : P ∈ S) (k : ∀ qs H', TbOk qs → Led K H0 S H' (L.set n (P, .raw (.tbl qs))) I → Q (.bl (ns.any pb)) H') : anyK K P pb (.ref a) H Q := by
  refine ⟨a, ns, rfl, h.sqL m e2, h.tabG n e ok, fun H2 t => ?_⟩
  obtain ⟨qs, o, h2⟩ := h.tabW n e hs t
  exact k qs H2 o h2
theorem tab_kbs {a : Addr} (n m : Nat) (h : Led K H0 S H L I) {o : HO} (e : L[n]? = some (P, .raw (.tbl ps))) (e2 : L[m]? = some (a, .raw o)) (hnm : n ≠ m) (ok : TbOk ps) (k : KBs H H' [a]) : GxR.TabG H' P :=
  ⟨ps, k _ _ (h.raw n e) (by simpa using h.ne n m e e2 hnm), ok⟩
end
theorem any_byt {ns : List Int} (h : (ns.any fun z => decide (z < 0) || decide (256 ≤ z)) = false) : byt ns := fun z hz => by
  have q := List.any_eq_false.mp h z hz
  simp only [Bool.or_eq_true, decide_eq_true_eq, not_or] at q
  omega

def t_Reading_argument (K : PySem.W.Frag) (A : Ad) (W : WX) : TS :=
  (tSeq (tAsg (tMethE A.c_Reading "next" (sp_Reading_next K A) (WE W) (mV 0) tNil) (gName 2))
  (tSeq (mIf (mTest (tOp (mEq K) (mV 1) (tC (.str "b"))))
    (tSeq (mIf (mTest (tOp mGt (mV 2) (tC (.int 1))))
    (mRaise0 A.c_NoEntry W)
    tNext)
  (tRet (tOp (mEq K) (mV 2) (tC (.int 1)))))
    tNext)
  (tSeq (mIf (tOr (tAnd (mTest (tOp (mEq K) (mV 1) (tC (.str "I")))) (mTest (tOp (mEq K) (mV 2) (tC (.int 2))))) (tAnd (mTest (tOp (mEq K) (mV 1) (tC (.str "T")))) (mTest (tOp (mEq K) (mV 2) (tC (.int 255))))))
    (tRet (tC .non))
    tNext)
  (tSeq (mIf (mTest (tOp rInS (mV 1) (tC (.str "iI"))))
    (tRet (tMethE A.c_Reading "integer" (sp_Reading_integer K A) (WE W) (mV 0) (tCons (mV 2) tNil)))
    tNext)
  (tSeq (mIf (mTest (tOp (mEq K) (mV 2) (tC (.int 255))))
    (mRaise0 A.c_NoEntry W)
    tNext)
  (tRet (tMethE A.c_Reading "characters" (sp_Reading_characters K A) (WE W) (mV 0) (tCons (mV 2) tNil))))))))
theorem rd_Reading_argument {K : PySem.W.Frag} {A : Ad} {vs : List V} {H : Hp} {Q : VK} {E : XK} (C : XC K A) (h : sp_Reading_argument K A vs H Q E) : t_Reading_argument K A (fun cls d _ H => E cls d H) { nx := fun _ H' => Q .non H', rt := Q } (start ["self", "kind", "first"] vs) H := by
  obtain ⟨a, dx, nu, ns, t, kd, rfl, hr, hby, k, ke⟩ := h
  show t_Reading_argument K A _ _ [some (.ref a), some (.str ⟨#[kd]⟩), none] H
  unfold t_Reading_argument
  have cR := C.cf_Reading
  have hne : a ≠ nu := fun e => by have h1 := hr.1; rw [e, hr.2.1] at h1; exact nomatch h1
  have hL : Led K H [a] H [(a, .raw (.ins A.c_Reading dx (rdF nu (.int (t : Nat))))), (nu, .raw (.lst (ns.map V.int)))] [] := Led.mk2 hr.1 hr.2.1 hne
  have hb : ((⟨#[kd]⟩ : Str) = "b") ↔ kd = 98 := by
    rw [show ("b" : Str) = ⟨#[98]⟩ by decide]
    simp
  have hI : ((⟨#[kd]⟩ : Str) = "I") ↔ kd = 73 := by
    rw [show ("I" : Str) = ⟨#[73]⟩ by decide]
    simp
  have hT : ((⟨#[kd]⟩ : Str) = "T") ↔ kd = 84 := by
    rw [show ("T" : Str) = ⟨#[84]⟩ by decide]
    simp
  have hi : (kd ∈ ("iI" : Str).cps.toList) ↔ (kd = 105 ∨ kd = 73) := by
    rw [show ("iI" : Str).cps.toList = [105, 73] by decide]
    simp
  walk_at "gs"
  refine ⟨a, dx, nu, ns, t, rfl, hr, fun z hz H1 kb he => ?_, fun hz H1 kb => ke (by unfold pArg; rw [hz]; rfl) H1 kb⟩
  have h1 := hL.wrI 0 rfl kb he (.inr (by simp))
  have hl := hr.2.2
  clear hL
  have hzb := hby z (List.mem_of_getElem? hz)
  have ep : pArg ns t kd = (if kd = 98 then (if z > 1 then none else some (.bl (decide (z = 1)), t + 1))
      else if (kd = 73 ∧ z = 2) ∨ (kd = 84 ∧ z = 255) then some (.non, t + 1)
      else if kd = 105 ∨ kd = 73 then (pInt ns (t + 1) z).map fun i => (.int i, t + 1 + 4)
      else if z = 255 then none
      else (pChars ns (t + 1) z.toNat).map fun l => (.str ⟨l.toArray⟩, t + 1 + z.toNat)) := by unfold pArg; rw [hz]; rfl
  rw [ep] at k ke
  walk_at "gs"
  refine h_brS (fun c => ?_) (fun c => ?_)
  · rw [if_pos (hb.mp c)] at k ke
    walk_at "gs"
    refine h_br (fun c2 => ?_) (fun c2 => ?_)
    · walk_at "gs"
      exact ke (if_pos c2) H1 h1.kp
    · walk_at "gs"
      exact k _ _ (if_neg c2) H1 h1.kp (h1.raw 0 rfl)
  · rw [if_neg fun e => c (hb.mpr e)] at k ke
    walk_at "gs"
    refine h_argOr (fun c1 => ?_) (fun c1 c2 => ?_)
    · have c1 : (kd = 73 ∧ z = 2) ∨ (kd = 84 ∧ z = 255) := c1.imp (fun q => ⟨hI.mp q.1, of_decide_eq_true q.2⟩) fun q => ⟨hT.mp q.1, of_decide_eq_true q.2⟩
      walk_at "gs"
      exact k _ _ (if_pos c1) H1 h1.kp (h1.raw 0 rfl)
    · have cn : ¬ ((kd = 73 ∧ z = 2) ∨ (kd = 84 ∧ z = 255)) := fun q => q.elim (fun q => c1 ⟨hI.mpr q.1, decide_eq_true q.2⟩) fun q => c2 ⟨hT.mpr q.1, decide_eq_true q.2⟩
      rw [if_neg cn] at k ke
      walk_at "gs"
      refine ⟨kd, _, rfl, rfl, ?_⟩
      walk_at "gs"
      refine h_br (fun c3 => ?_) (fun c3 => ?_)
      · rw [if_pos (hi.mp c3)] at k ke
        walk_at "gs"
        refine ⟨a, dx, nu, ns, t + 1, z, rfl, h1.rd 0 1 rfl rfl hl, fun i hpi H2 kb he => ?_, fun hpi H2 kb => ?_⟩
        · have h2 := h1.wrI 0 rfl kb he (.inr (by simp))
          exact k _ _ (by rw [hpi]; rfl) H2 h2.kp (h2.raw 0 rfl)
        · exact ke (by rw [hpi]; rfl) H2 (h1.kp.trans kb)
      · rw [if_neg fun e => c3 (hi.mpr e)] at k ke
        walk_at "gs"
        refine h_br (fun c4 => ?_) (fun c4 => ?_)
        · walk_at "gs"
          exact ke (if_pos c4) H1 h1.kp
        · rw [if_neg c4] at k ke
          obtain ⟨m, rfl⟩ := Int.eq_ofNat_of_zero_le hzb.1
          rw [Int.toNat_natCast] at k ke
          walk_at "gs"
          refine ⟨a, dx, nu, ns, t + 1, m, rfl, h1.rd 0 1 rfl rfl hl, by omega, fun l hpl H2 kb he => ?_, fun hpl H2 kb => ?_⟩
          · have h2 := h1.wrI 0 rfl kb he (.inr (by simp))
            exact k _ _ (by rw [hpl]; rfl) H2 h2.kp (h2.raw 0 rfl)
          · exact ke (by rw [hpl]; rfl) H2 (h1.kp.trans kb)
def t_read_entry (K : PySem.W.Frag) (A : Ad) (W : WX) : TS :=
  (tSeq (mIf (mTr K (tAnyI K (A.t 0) (fun n => decide (n < 0) || decide (256 ≤ n)) (mV 0)))
    (mRaise0 A.c_NoEntry W)
    tNext)
  (tSeq (tAsg (tMake A.c_Reading (sp_Reading___init__ K A) [] E0 (tCons (mV 0) tNil)) (gName 1))
  (tSeq (tAsg (tMethE A.c_Reading "next" (sp_Reading_next K A) (WE W) (mV 1) tNil) (gName 2))
  (tSeq (mIf (mTest (tOp (mEq K) (mV 2) (tC (.int 0))))
    (tSeq (tAsg (tMethE A.c_Reading "next" (sp_Reading_next K A) (WE W) (mV 1) tNil) (gName 3))
  (tSeq (mAug 3 (tOp mMul (tC (.int 256)) (tMethE A.c_Reading "next" (sp_Reading_next K A) (WE W) (mV 1) tNil)) mIAdd)
  (tRet (tTup (tCons (tC (.str "start")) (tCons (tTup (tCons (mV 3) (tCons (tMethE A.c_Reading "characters" (sp_Reading_characters K A) (WE W) (mV 1) (tCons (tOp mSub (tCB (hLen K) (tCons (mV 0) tNil)) (tFld K (mV 1) "at")) tNil)) tNil))) tNil))))))
    tNext)
  (tSeq (mIf (mTest (tOp mGt (mV 2) (tCB (hLen K) (tCons (tC (.ref (A.k 0))) tNil))))
    (mRaise0 A.c_NoEntry W)
    tNext)
  (tSeq (tAsg (tOp (rIx K) (tC (.ref (A.k 0))) (tOp mSub (mV 2) (tC (.int 1)))) (gTup K 2 (mGc (gName 4) (mGc (gName 5) mGn))))
  (tSeq (tAsg (tCB (hTupOf K) (tCons (tLcW (jS (mV 5)) (gName 7) tYes (fun Wc => (tMethE A.c_Reading "argument" (sp_Reading_argument K A) (WE Wc) (mV 1) (tCons (mV 7) tNil))) [7] W) tNil)) (gName 6))
  (tSeq (mIf (mTest (tOp (mNe K) (tFld K (mV 1) "at") (tCB (hLen K) (tCons (mV 0) tNil))))
    (mRaise0 A.c_NoEntry W)
    tNext)
  (tRet (tTup (tCons (mV 4) (tCons (mV 6) tNil))))))))))))
theorem rd_read_entry {K : PySem.W.Frag} {A : Ad} {vs : List V} {H : Hp} {Q : VK} {E : XK} (C : XC K A) (h : sp_read_entry K A vs H Q E) : t_read_entry K A (fun cls d _ H => E cls d H) { nx := fun _ H' => Q .non H', rt := Q } (start ["numbers", "reading", "number", "size", "name", "kinds", "arguments", "kind"] vs) H := by
  obtain ⟨nu, c, rfl, hn, hl, ht, k, ke⟩ := h
  show t_read_entry K A _ _ [some (.ref nu), none, none, none, none, none, none, none] H
  unfold t_read_entry
  have cR := C.cf_Reading
  obtain ⟨ps, hp, ok⟩ := ht
  have hne : nu ≠ A.t 0 := fun e => by rw [e, hp] at hn; exact nomatch hn
  have hL : Led K H [A.t 0] H [(nu, .raw (.lst (c.map V.int))), (A.t 0, .raw (.tbl ps))] [] := Led.mk2 hn hp hne
  walk_at "gs"
  refine h_anyG 1 0 hL rfl rfl ok (by simp) fun qs H1 ok1 h1 => ?_
  clear hL
  walk_at "gs"
  refine h_brb (fun ca => ?_) (fun ca => ?_)
  · walk_at "gs"
    exact ke (if_pos ca) H1 h1.kp (h1.tabG 1 rfl ok1)
  have hby := any_byt ca
  have epE : pEntry c = (c[0]?.bind fun z => if z = 0 then c[1]?.bind fun a => c[2]?.bind fun b => (pChars c 3 (c.length - 3)).map fun l => (("start" : Str), [V.int (a + 256 * b), V.str ⟨l.toArray⟩])
      else if z > 18 then none else forms[(z - 1).toNat]?.bind fun f => (pArgs c f.2.cps.toList f.2.cps.toList.length).bind fun r => if r.2 = c.length then some (f.1, r.1) else none : Option (Str × List V)) := if_neg (by rw [ca]; exact Bool.false_ne_true)
  rw [epE] at k ke
  clear epE
  walk_at "gs"
  refine h_make h1 fun a dx H2 na h2 => ?_
  clear h1
  refine ⟨a, dx, nu, rfl, h2.raw 0 rfl, fun H3 kb he => ⟨rfl, ?_⟩⟩
  have h3 := h2.wr (e' := .raw (.ins A.c_Reading dx (rdF nu (.int (0 : Nat))))) 0 rfl kb (h2.raw 0 rfl) rfl he na
  clear h2
  walk_at "gs"
  refine ⟨a, dx, nu, c, 0, rfl, h3.rd 0 1 rfl rfl hl, fun z hz H4 kb he => ?_, fun hz H4 kb => ?_⟩
  rotate_left
  · exact ke (by rw [hz]; rfl) H4 (kbs_drop h3.kp kb na) (tab_kbs 2 0 h3 rfl rfl (by decide) ok1 kb)
  have h4 := h3.wrI 0 rfl kb he na
  clear h3
  rw [hz] at k ke
  simp only [Option.bind_some] at k ke
  have hzb := hby z (List.mem_of_getElem? hz)
  walk_at "gs"
  refine h_br (fun c0 => ?_) (fun c0 => ?_)
  · rw [if_pos c0] at k ke
    walk_at "gs"
    refine ⟨a, dx, nu, c, 1, rfl, h4.rd 0 1 rfl rfl hl, fun z1 hz1 H5 kb he => ?_, fun hz1 H5 kb => ?_⟩
    rotate_left
    · exact ke (by rw [hz1]; rfl) H5 (kbs_drop h4.kp kb na) (tab_kbs 2 0 h4 rfl rfl (by decide) ok1 kb)
    have h5 := h4.wrI 0 rfl kb he na
    clear h4
    rw [hz1] at k ke
    simp only [Option.bind_some] at k ke
    walk_at "gs"
    refine ⟨a, dx, nu, c, 2, rfl, h5.rd 0 1 rfl rfl hl, fun z2 hz2 H6 kb he => ?_, fun hz2 H6 kb => ?_⟩
    rotate_left
    · exact ke (by rw [hz2]; rfl) H6 (kbs_drop h5.kp kb na) (tab_kbs 2 0 h5 rfl rfl (by decide) ok1 kb)
    have h6 := h5.wrI 0 rfl kb he na
    clear h5
    rw [hz2] at k ke
    simp only [Option.bind_some] at k ke
    have h3l : 3 ≤ c.length := (List.getElem?_eq_some_iff.mp hz2).1
    walk_at "gs"
    rw [List.length_map, show ((c.length : Nat) : Int) - ((2 + 1 : Nat) : Int) = ((c.length - 3 : Nat) : Int) by omega]
    refine ⟨a, dx, nu, c, 2 + 1, c.length - 3, rfl, h6.rd 0 1 rfl rfl hl, by omega, fun l hpl H7 kb he => ?_, fun hpl H7 kb => ?_⟩
    rotate_left
    · exact ke (by rw [show pChars c 3 (c.length - 3) = none from hpl]; rfl) H7 (kbs_drop h6.kp kb na) (tab_kbs 2 0 h6 rfl rfl (by decide) ok1 kb)
    have h7 := h6.wrI 0 rfl kb he na
    clear h6
    walk_at "gs"
    rename_i T1 H8 h8 T2 H9 h9
    exact k _ _ (by rw [show pChars c 3 (c.length - 3) = some l from hpl]; rfl) _ _ h9.kp (h9.tabG 2 rfl ok1) (h9.im 0 _ _ rfl)
  rw [if_neg c0] at k ke
  walk_at "gs"
  refine h_lenT (C.im_FORMS _) ?_
  walk_at "gs"
  refine h_br (fun c1 => ?_) fun c1 => ?_
  · rw [List.length_map, show forms.length = 18 from rfl] at c1
    walk_at "gs"
    exact ke (if_pos (by omega)) H4 h4.kp (h4.tabG 2 rfl ok1)
  rw [List.length_map, show forms.length = 18 from rfl] at c1
  rw [if_neg (by omega)] at k ke
  have hfi : (z - 1).toNat < forms.length := by rw [show forms.length = 18 from rfl]; omega
  have ef : forms[(z - 1).toNat]? = some forms[(z - 1).toNat] := List.getElem?_eq_getElem hfi
  rw [ef] at k ke
  simp only [Option.bind_some] at k ke
  obtain ⟨⟨n, ks⟩, hf⟩ : ∃ f, f = forms[(z - 1).toNat] := ⟨_, rfl⟩
  rw [← hf] at k ke ef
  clear hf
  have k : ∀ n' us, ((pArgs c ks.cps.toList ks.cps.toList.length).bind fun r => if r.2 = c.length then some (n, r.1) else none) = some (n', us) → ∀ v H', KBs H H' [A.t 0] → GxR.TabG H' (A.t 0) → Im K H' v (.tuple [.str n', .tuple (us.map vD)]) → Q v H' := k
  have ke : ((pArgs c ks.cps.toList ks.cps.toList.length).bind fun r => if r.2 = c.length then some (n, r.1) else none) = none → ∀ H', KBs H H' [A.t 0] → GxR.TabG H' (A.t 0) → E (.ref A.c_NoEntry) none H' := ke
  have hsz : ks.cps.size = ks.cps.toList.length := Array.length_toList.symm
  obtain ⟨_, hk7, _⟩ := forms_kinds ef
  walk_at "gs"
  refine h_ixIm (C.im_FORMS _) (by omega) (d := .tuple [.str n, .str ks]) (by rw [List.getElem?_map, ef]; rfl) fun v hv => ?_
  obtain ⟨va, rfl⟩ := hv.ref
  refine h_gtupV hv rfl rfl ?_
  walk_at "gs"
  refine lcS h4 (fun p t H5 => ∃ r, pArgs c ks.cps.toList t = some r ∧ (H p = none ∨ p ∈ [A.t 0]) ∧ Led K H [A.t 0] H5 [(p, .raw (.lst r.1)), (a, .raw (.ins A.c_Reading dx (rdF nu (.int (r.2 : Nat))))), (nu, .raw (.lst (c.map V.int))), (A.t 0, .raw (.tbl qs))] []) (fun p H5 np h5 => ⟨([], 1), rfl, np, h5⟩) ?_ ?_
  · clear h4
    rintro p t kd H5 hk ⟨r, hpr, np, h5⟩
    have hk2 : ks.cps.toList[t]? = some kd := by rw [Array.getElem?_toList]; exact hk
    have htl : t < ks.cps.toList.length := (List.getElem?_eq_some_iff.mp hk2).1
    have hrl := (pArgs_sV hpr).1
    have step : pArgs c ks.cps.toList (t + 1) = (pArg c r.2 kd).map fun q => (r.1 ++ [q.1], q.2) := by
      show (pArgs c ks.cps.toList t).bind _ = _
      rw [hpr]
      show (ks.cps.toList[t]?).bind _ = _
      rw [hk2]
      rfl
    walk_at "gs"
    refine ⟨a, dx, nu, c, r.2, kd, rfl, h5.rd 1 2 rfl rfl hl, hby, fun v u hpa H6 kb he => ?_, fun hpa H6 kb => ?_⟩
    · have h6 := h5.wrI 1 rfl kb he na
      clear h5
      obtain ⟨acc2, a1, a2, a3⟩ := h_accL (y := v) 0 h6 rfl np (by rw [sizeLine_eq]; omega)
      exact ⟨acc2, a1, a2, (r.1 ++ [v], u), by rw [step, hpa]; rfl, np, a3⟩
    · refine ke ?_ H6 (kbs_drop h5.kp kb na) (tab_kbs 3 1 h5 rfl rfl (by decide) ok1 kb)
      rw [pArgs_up (i := t + 1) (by rw [step, hpa]; rfl) htl]
      rfl
  · clear h4
    rintro p H5 ⟨r, hpr, np, h5⟩
    rw [hsz] at hpr
    obtain ⟨_, hsv⟩ := pArgs_sV hpr
    rw [hpr] at k ke
    simp only [Option.bind_some] at k ke
    walk_at "gs"
    refine h_tupOfR 0 h5 rfl (sVs_im hsv) fun q H6 h6 => ?_
    walk_at "gs"
    rw [List.length_map]
    refine h_brn (fun c2 => ?_) fun c2 => ?_
    · walk_at "gs"
      exact ke (if_neg fun e => c2 (by rw [e])) H6 h6.kp (h6.tabG 3 rfl ok1)
    · walk_at "gs"
      rename_i T1 H8 h8
      exact k _ _ (if_pos (by omega)) _ _ h8.kp (h8.tabG 3 rfl ok1) (h8.im 0 _ _ rfl)

/-! ### reading a journal -/
theorem log_small {n : Nat} (h : n ≤ 100000) : n.log2 < 1920 := by
  by_cases c : n = 0
  · rw [c]
    decide
  · refine (Nat.log2_lt c).mpr (Nat.lt_of_le_of_lt h ?_)
    exact Nat.lt_of_lt_of_le (show 100000 < 2 ^ 17 by decide) (Nat.pow_le_pow_right (by decide) (by decide))
theorem h_raiseP {C : Addr} {H1 : Hp} {Q : XK} {pl : Nat} (hpl : pl ≤ 100000) (k : ∀ d, H1 d = none → Q (.ref C) (some d) (upd H1 d (.xd [("place", .int (pl : Nat))]))) : mkX C ["place"] [.int (pl : Nat)] H1 Q :=
  ⟨rfl, fun v hv => .inr ⟨_, List.mem_singleton.mp hv, log_small hpl⟩, by show 1 ≤ 10; decide, k⟩
theorem lpW2 {c : TT} {tb : TS} {D : Ends} {σ : L2.St} {H : Hp} (Pv : Nat → L2.St → Hp → Prop) (Pe : L2.St → Hp → Prop) (m0 : Nat) (h0 : Pv m0 σ H)
    (hs : ∀ m σ H, Pv m σ H → ∀ DX : Ends, DX.rt = D.rt → (∀ σ' H', Pe σ' H' → DX.nx σ' H') → c σ H fun b H1 => if b = true then ∃ N : L2.St → Hp → Prop, (∀ σ' H', N σ' H' → ∃ m', m' < m ∧ Pv m' σ' H') ∧ tb { DX with nx := N, ct := N, bk := DX.nx } σ H1 else DX.nx σ H1)
    (hd : ∀ σ H, Pe σ H → D.nx σ H) : tWhile c tb D σ H :=
  lpW Pv m0 h0 fun m σ H p => hs m σ H p D rfl hd
def jS_ (nu fd : Addr) (pl : Nat) (y3 y4 y5 : Option V) : L2.St := [some (.ref nu), some (.ref fd), some (.int (pl : Nat)), y3, y4, y5]
def jL_ (K : PySem.W.Frag) (A : Ad) (H : Hp) (nu fd : Addr) (ns : List Int) (pl : Nat) (H2 : Hp) : Prop := ∃ (ds : List PyData) (p0 p1 : Array Value), (ds.length = 0 ↔ pl = 0) ∧ ds.length ≤ pl ∧ TbOk p0 ∧ TbOk p1 ∧ Led K H [A.t 0, A.t 1] H2 [(fd, .dl ds), (nu, .raw (.lst (ns.map V.int))), (A.t 0, .raw (.tbl p0)), (A.t 1, .raw (.tbl p1))] []
def jI_ (K : PySem.W.Frag) (A : Ad) (H : Hp) (nu fd : Addr) (ns : List Int) (R : Int) (m : Nat) (σ : L2.St) (H2 : Hp) : Prop := ∃ (pl : Nat) (y3 y4 y5 : Option V), pl ≤ ns.length ∧ ns.length - pl + 1 ≤ m ∧ jr m (ns.drop pl) (decide (pl = 0)) pl = R ∧ σ = jS_ nu fd pl y3 y4 y5 ∧ jL_ K A H nu fd ns pl H2
def jE_ (K : PySem.W.Frag) (A : Ad) (H : Hp) (nu fd : Addr) (ns : List Int) (R : Int) (σ : L2.St) (H2 : Hp) : Prop := ∃ (pl : Nat) (y3 y4 y5 : Option V), pl ≤ ns.length ∧ R = (if pl = 0 then 0 else -1) ∧ σ = jS_ nu fd pl y3 y4 y5 ∧ jL_ K A H nu fd ns pl H2
theorem jr_short {m : Nat} {l : List Int} {b : Bool} {pl : Nat} (hm : 1 ≤ m) (hl : l.length < 2) : jr m l b pl = if b = true then 0 else -1 := by
  cases m with
  | zero => exact absurd hm (by decide)
  | succ m =>
    match l, hl with
    | [], _ => rfl
    | [x], _ => rfl
    | x :: y :: r, hl => exact absurd hl (by rw [List.length_cons, List.length_cons]; omega)
theorem jr_long {m : Nat} {x y : Int} {r : List Int} {b : Bool} {pl : Nat} : jr (m + 1) (x :: y :: r) b pl =
    if (x < 0 ∨ 256 ≤ x) ∨ (y < 0 ∨ 256 ≤ y) then (pl : Int)
    else if (r.length : Int) < x + 256 * y then (if b = true then 0 else -1)
    else match pEntry (r.take (x + 256 * y).toNat) with
      | none => (pl : Int)
      | some e => if decide (e.1 = ("start" : Str)) = b then jr m (r.drop (x + 256 * y).toNat) false (pl + 2 + (x + 256 * y).toNat) else (pl : Int) := rfl

def t_read_journal (K : PySem.W.Frag) (A : Ad) (W : WX) : TS :=
  (tSeq (tAsg (tLst tNil) (gName 1))
  (tSeq (tAsg (tC (.int 0)) (gName 2))
  (tSeq (tWhile (mTest (tOp mLe (tOp (mAdd K) (mV 2) (tC (.int 2))) (tCB (hLen K) (tCons (mV 0) tNil))))
    (tSeq (mIf (mTr K (tAnyI K (A.t 1) (fun n => decide (n < 0) || decide (256 ≤ n)) (tSl (uSl K) (mV 0) (mPart (mV 2)) (mPart (tOp (mAdd K) (mV 2) (tC (.int 2)))))))
    (mRaiseX A.c_BadJournal ["place"] W (tCons (mV 2) tNil))
    tNext)
  (tSeq (tAsg (tOp (mAdd K) (tOp (mAdd K) (tOp (mAdd K) (mV 2) (tC (.int 2))) (tOp (rIx K) (mV 0) (mV 2))) (tOp mMul (tC (.int 256)) (tOp (rIx K) (mV 0) (tOp (mAdd K) (mV 2) (tC (.int 1)))))) (gName 3))
  (tSeq (mIf (mTest (tOp mGt (mV 3) (tCB (hLen K) (tCons (mV 0) tNil))))
    tBreak
    tNext)
  (mCut (mTryOnly K (.ref A.c_NoEntry) (fun W =>
    (tAsg (tCallS (sp_read_entry K A) (WE W) (tCons (tSl (uSl K) (mV 0) (mPart (tOp (mAdd K) (mV 2) (tC (.int 2)))) (mPart (mV 3))) tNil)) (gTup K 2 (mGc (gName 4) (mGc (gName 5) mGn)))))
    (fun a cls d => (mRaiseX A.c_BadJournal ["place"] W (tCons (mV 2) tNil))) W)
  (tSeq (mIf (mTest (tOp (mNe K) (tOp (mEq K) (mV 4) (tC (.str "start"))) (tOp (mEq K) (mV 2) (tC (.int 0)))))
    (mRaiseX A.c_BadJournal ["place"] W (tCons (mV 2) tNil))
    tNext)
  (tSeq (tDrop (tBM K "list" rAppend (mV 1) (tCons (tTup (tCons (mV 4) (tCons (mV 5) (tCons (mV 3) tNil)))) tNil)))
  (tAsg (mV 3) (gName 2)))))))))
  (tSeq (mIf (mTest (tOp (mEq K) (tCB (hLen K) (tCons (mV 1) tNil)) (tC (.int 0))))
    (mRaiseX A.c_BadJournal ["place"] W (tCons (tC (.int 0)) tNil))
    tNext)
  (tRet (mV 1))))))
theorem rd_read_journal {K : PySem.W.Frag} {A : Ad} {vs : List V} {H : Hp} {Q : VK} {E : XK} (C : XC K A) (h : sp_read_journal K A vs H Q E) : t_read_journal K A (fun cls d _ H => E cls d H) { nx := fun _ H' => Q .non H', rt := Q } (start ["numbers", "found", "place", "behind", "name", "arguments"] vs) H := by
  obtain ⟨nu, ns, rfl, hn, hl, ⟨h01, ⟨ps0, hp0, ok0⟩, ⟨ps1, hp1, ok1⟩⟩, k1, k2⟩ := h
  show t_read_journal K A _ _ [some (.ref nu), none, none, none, none, none] H
  unfold t_read_journal
  have n0 : nu ≠ A.t 0 := fun e => by rw [e, hp0] at hn; exact nomatch hn
  have n1 : nu ≠ A.t 1 := fun e => by rw [e, hp1] at hn; exact nomatch hn
  have hL : Led K H [A.t 0, A.t 1] H [(nu, .raw (.lst (ns.map V.int))), (A.t 0, .raw (.tbl ps0)), (A.t 1, .raw (.tbl ps1))] [] :=
    Led.addE (e := .raw (.lst _)) (Led.mk2 hp0 hp1 h01) (by simp [n0, n1]) hn
  obtain ⟨R, hR⟩ : ∃ R, jr (ns.length + 1) ns true 0 = R := ⟨_, rfl⟩
  rw [hR] at k1
  have k2 := k2 R hR
  walk_at "gs"
  rename_i fd H1 nfd h1
  have h1 : Led K H [A.t 0, A.t 1] H1 [(fd, .dl []), (nu, .raw (.lst (ns.map V.int))), (A.t 0, .raw (.tbl ps0)), (A.t 1, .raw (.tbl ps1))] [] := h1.toD 0 rfl .nil
  clear hL
  have boom : ∀ {pl : Nat} {H2 : Hp} {L : List (Addr × Ent)} {I : List (V × PyData)} {q0 q1 : Array Value} (i0 i1 : Nat), pl ≤ 100000 → R = (pl : Int) → Led K H [A.t 0, A.t 1] H2 L I → L[i0]? = some (A.t 0, .raw (.tbl q0)) → L[i1]? = some (A.t 1, .raw (.tbl q1)) → TbOk q0 → TbOk q1 →
      mkX A.c_BadJournal ["place"] [.int (pl : Nat)] H2 (fun cls d H' => E cls d H') := fun {pl H2 L I q0 q1} i0 i1 hpl hR2 h2 e0 e1 o0 o1 => by
    refine h_raiseP hpl fun d hd => ?_
    have h3 := h2.alloc (o := .xd [("place", .int (pl : Nat))]) hd
    refine k2 (by omega) d _ h3.kp ⟨h01, h3.tabG (i0 + 1) e0 o0, h3.tabG (i1 + 1) e1 o1⟩ ?_
    rw [hR2]
    exact h3.raw 0 rfl
  refine lpW2 (jI_ K A H nu fd ns R) (jE_ K A H nu fd ns R) (ns.length + 1) ⟨0, _, _, _, Nat.zero_le _, Nat.le_refl _, hR, rfl, [], ps0, ps1, ⟨fun _ => rfl, fun _ => rfl⟩, Nat.le_refl _, ok0, ok1, h1⟩ ?_ ?_
  · clear h1
    rintro m σ H2 ⟨pl, y3, y4, y5, hpl, hm, hjr, rfl, ds, p0, p1, hd0, hd1, o0, o1, h2⟩ DX hrt hfin
    unfold jS_
    walk_at "gs"
    rw [List.length_map]
    have hdl : (ns.drop pl).length = ns.length - pl := List.length_drop
    refine h_ite (fun c1 => ?_) (fun c1 => ?_)
    · obtain ⟨x, y, r, hd⟩ : ∃ x y r, ns.drop pl = x :: y :: r := by
        match e : ns.drop pl with
        | [] => rw [e] at hdl; have : 0 = ns.length - pl := hdl; omega
        | [x] => rw [e] at hdl; have : 1 = ns.length - pl := hdl; omega
        | x :: y :: r => exact ⟨x, y, r, rfl⟩
      have hrl : pl + (2 + r.length) = ns.length := by
        rw [hd, List.length_cons, List.length_cons] at hdl
        omega
      obtain ⟨m, rfl⟩ : ∃ m', m = m' + 1 := ⟨m - 1, by omega⟩
      rw [hd, jr_long] at hjr
      refine ⟨fun σ' H' => ∃ m', m' < m + 1 ∧ jI_ K A H nu fd ns R m' σ' H', fun _ _ z => z, ?_⟩
      have hsl : (ns.take (((pl : Nat) : Int) + 2).toNat).drop ((pl : Nat) : Int).toNat = [x, y] := by
        rw [Int.toNat_natCast, show (((pl : Nat) : Int) + 2).toNat = pl + 2 by omega, List.drop_take, hd, Nat.add_sub_cancel_left]
        rfl
      have g0 : ns[pl]? = some x := by
        have q := congrArg (·[0]?) hd
        simp only [List.getElem?_drop] at q
        exact q
      have g1 : ns[pl + 1]? = some y := by
        have q := congrArg (·[1]?) hd
        simp only [List.getElem?_drop] at q
        exact q
      walk_at "gs"
      refine h_sl2 1 h2 rfl (by omega) (by omega) fun q H3 nq h3 => ?_
      rw [hsl] at h3
      clear h2
      refine h_anyG 4 0 h3 rfl rfl o1 (by simp) fun p1' H4 o1' h4 => ?_
      have h4 : Led K H [A.t 0, A.t 1] H4 [(fd, .dl ds), (nu, .raw (.lst (ns.map V.int))), (A.t 0, .raw (.tbl p0)), (A.t 1, .raw (.tbl p1'))] [] := h4.pick [1, 2, 3, 4]
      clear h3
      walk_at "gs"
      refine h_brb (fun ca => ?_) (fun ca => ?_)
      · walk_at "gs"
        refine boom 2 3 (by omega) ?_ h4 rfl rfl o0 o1'
        rw [if_pos] at hjr
        · exact hjr.symm
        · obtain ⟨z, hz, hz2⟩ := List.any_eq_true.mp ca
          simp only [Bool.or_eq_true, decide_eq_true_eq] at hz2
          simp only [List.mem_cons, List.not_mem_nil, or_false] at hz
          rcases hz with rfl | rfl
          · exact .inl hz2
          · exact .inr hz2
      have hby := any_byt ca
      have hx := hby x (by simp)
      have hy := hby y (by simp)
      rw [if_neg (by omega)] at hjr
      walk_at "gs"
      refine h_ixL 1 h4 rfl (v := .int x) (at_nn (by omega) (by rw [Int.toNat_natCast, List.getElem?_map, g0]; rfl)) ?_
      walk_at "gs"
      refine h_ixL 1 h4 rfl (v := .int y) (at_nn (by omega) (by rw [show (((pl : Nat) : Int) + 1).toNat = pl + 1 by omega, List.getElem?_map, g1]; rfl)) ?_
      walk_at "gs"
      rw [List.length_map]
      refine h_br (fun c2 => ?_) (fun c2 => ?_)
      · walk_at "gs"
        rw [if_pos (by omega)] at hjr
        refine hfin _ _ ⟨pl, _, _, _, hpl, ?_, rfl, ds, p0, p1', hd0, hd1, o0, o1', h4⟩
        rw [← hjr]
        by_cases c : pl = 0
        · rw [decide_eq_true c, if_pos rfl, if_pos c]
        · rw [decide_eq_false c, if_neg Bool.false_ne_true, if_neg c]
      rw [if_neg (by omega)] at hjr
      obtain ⟨b, hb⟩ : ∃ b : Nat, x + 256 * y = (b : Int) := ⟨(x + 256 * y).toNat, by omega⟩
      rw [hb, Int.toNat_natCast] at hjr
      have hbr : b ≤ r.length := by omega
      rw [show ((pl : Nat) : Int) + 2 + x + 256 * y = ((pl + 2 + b : Nat) : Int) by omega]
      have hsl2 : (ns.take ((pl + 2 + b : Nat) : Int).toNat).drop (((pl : Nat) : Int) + 2).toNat = r.take b := by
        rw [Int.toNat_natCast, show (((pl : Nat) : Int) + 2).toNat = pl + 2 by omega, List.drop_take, ← List.drop_drop, hd, Nat.add_sub_cancel_left]
        rfl
      have hdr : ns.drop (pl + 2 + b) = r.drop b := by
        rw [← List.drop_drop, ← List.drop_drop, hd]
        rfl
      walk_at "gs"
      refine ⟨fun σ H' => ∃ (n : Str) (us : List V) (v5 : V) (p0' : Array Value), pEntry (r.take b) = some (n, us) ∧ TbOk p0' ∧ σ = [some (.ref nu), some (.ref fd), some (.int (pl : Nat)), some (.int (pl + 2 + b : Nat)), some (.str n), some v5] ∧
        Led K H [A.t 0, A.t 1] H' [(fd, .dl ds), (nu, .raw (.lst (ns.map V.int))), (A.t 0, .raw (.tbl p0')), (A.t 1, .raw (.tbl p1'))] [(v5, .tuple (us.map vD))], ?_, ?_⟩
      · walk_at "gs"
        refine h_sl2 1 h4 rfl (by omega) (by omega) fun q2 H5 nq2 h5 => ?_
        rw [hsl2] at h5
        clear h4
        refine ⟨q2, r.take b, rfl, h5.raw 0 rfl, by rw [List.length_take]; omega, h5.tabG 3 rfl o0, fun n us hpe v H6 kb t hv => ?_, fun hpe H6 kb t => ?_⟩
        · obtain ⟨p0', o0', h6⟩ := h5.tabK 3 rfl (by simp) kb t
          have h6 : Led K H [A.t 0, A.t 1] H6 [(fd, .dl ds), (nu, .raw (.lst (ns.map V.int))), (A.t 0, .raw (.tbl p0')), (A.t 1, .raw (.tbl p1'))] [] := h6.pick [1, 2, 3, 4]
          clear h5
          obtain ⟨va, rfl⟩ := hv.ref
          refine h_gtup2 hv fun v1 v2 i1 i2 => ?_
          cases i1
          have h6 := h6.imNew i2
          walk_at "gs"
          exact ⟨n, us, v2, p0', hpe, o0', rfl, h6⟩
        · obtain ⟨p0', o0', h6⟩ := h5.tabK 3 rfl (by simp) kb t
          clear h5
          refine h_wOnlyT C.exm_NoEntry_NoEntry fun xa hxa => ?_
          walk_at "gs"
          rw [hpe] at hjr
          exact boom 3 4 (by omega) hjr.symm h6 rfl rfl o0' o1'
      · clear h4
        rintro σ H6 ⟨n, us, v5, p0', hpe, o0', rfl, h6⟩
        rw [hpe] at hjr
        have hjr : (if decide (n = ("start" : Str)) = decide (pl = 0) then jr m (r.drop b) false (pl + 2 + b) else (pl : Int)) = R := hjr
        have hcc : (decide (((pl : Nat) : Int) = 0)) = decide (pl = 0) := by
          by_cases c : pl = 0
          · rw [decide_eq_true c, decide_eq_true (by omega)]
          · rw [decide_eq_false c, decide_eq_false (by omega)]
        walk_at "gs"
        rw [hcc]
        refine h_brn (fun c3 => ?_) fun c3 => ?_
        · walk_at "gs"
          rw [if_neg (show ¬ (decide (n = ("start" : Str)) = decide (pl = 0)) from c3)] at hjr
          exact boom 2 3 (by omega) hjr.symm h6 rfl rfl o0' o1'
        · rw [if_pos (show decide (n = ("start" : Str)) = decide (pl = 0) from c3)] at hjr
          walk_at "gs"
          rename_i T1 H7 h7 H8 h8
          refine ⟨m, Nat.lt_succ_self m, pl + 2 + b, _, _, _, by omega, by omega, ?_, rfl, _, p0', p1', ⟨fun z => ?_, fun z => by omega⟩, by rw [List.length_append]; show _ + 1 ≤ _; omega, o0', o1', h8.noI⟩
          · rw [hdr, decide_eq_false (by omega)]
            exact hjr
          · rw [List.length_append] at z
            have z : _ + 1 = 0 := z
            omega
    · rw [jr_short (by omega) (by omega)] at hjr
      refine hfin _ _ ⟨pl, _, _, _, hpl, ?_, rfl, ds, p0, p1, hd0, hd1, o0, o1, h2⟩
      rw [← hjr]
      by_cases c : pl = 0
      · rw [decide_eq_true c, if_pos rfl, if_pos c]
      · rw [decide_eq_false c, if_neg Bool.false_ne_true, if_neg c]
  · clear h1
    rintro σ H2 ⟨pl, y3, y4, y5, hpl, hRR, rfl, ds, p0, p1, hd0, hd1, o0, o1, h2⟩
    unfold jS_
    walk_at "gs"
    refine h_br (fun c => ?_) (fun c => ?_)
    · have ce : pl = 0 := hd0.mp (by omega)
      rw [if_pos ce] at hRR
      walk_at "gs"
      exact boom (pl := 0) 2 3 (by omega) hRR h2 rfl rfl o0 o1
    · have ce : pl ≠ 0 := fun z => c (by have := hd0.mpr z; omega)
      rw [if_neg ce] at hRR
      walk_at "gs"
      refine k1 hRR fd H2 h2.kp ⟨h01, h2.tabG 2 rfl o0, h2.tabG 3 rfl o1⟩ ?_
      have q := h2.nd
      simp only [List.map_cons, List.nodup_cons, List.mem_cons, not_or] at q
      exact nfd.elim id fun z => by
        simp only [List.mem_cons, List.not_mem_nil, or_false] at z
        exact z.elim (fun z => absurd z q.1.2.1) fun z => absurd z q.1.2.2.1
def t__law_read (K : PySem.W.Frag) (A : Ad) : TS :=
  (mCut (mTryAs K (.ref A.c_RecordError) 1 (fun W =>
    (tDrop (tCallS (sp_read_journal K A) (WE W) (tCons (mV 0) tNil))))
    (fun a cls d => (tSeq (mIf (tAnd (mTr K (tCB (rIsY K cls d a) (tCons (mV 1) (tCons (tC (.ref A.c_BadJournal)) tNil)))) (mTr K (tCB (rIsY K cls d a) (tCons (mV 1) (tCons (tC (.ty "ValueError")) tNil)))))
    (tRet (tXf a cls d A.c_BadJournal "place" (mV 1)))
    tNext)
  (tRet (tUn mNeg (tC (.int 2)))))) wNo)
  (tRet (tUn mNeg (tC (.int 1)))))
theorem rd__law_read {K : PySem.W.Frag} {A : Ad} {vs : List V} {H : Hp} {Q : VK} {E : XK} (C : XC K A) (h : sp__law_read K A vs H Q E) : t__law_read K A { nx := fun _ H' => Q .non H', rt := Q } (start ["_law_numbers", "e"] vs) H := by
  obtain ⟨nu, ns, rfl, hn, hl, hT, k⟩ := h
  show t__law_read K A _ [some (.ref nu), none] H
  unfold t__law_read
  obtain ⟨R, hR⟩ : ∃ R, jr (ns.length + 1) ns true 0 = R := ⟨_, rfl⟩
  rw [hR] at k
  refine ⟨fun _ H' => R = -1 ∧ KBs H H' [A.t 0, A.t 1] ∧ Tabs A H', ?_, ?_⟩
  · walk_at "gs"
    refine ⟨nu, ns, rfl, hn, hl, hT, fun e p H' kb t np => ?_, fun R' e ne d H' kb t hd => ?_⟩
    · rw [hR] at e
      walk_at "gs"
      exact t
    · rw [hR] at e
      subst e
      refine h_wAsT C.exm_BadJournal_RecordError fun x hx => ?_
      have hL : Led K H' [] H' [] [] := Led.start
      walk_at "gs"
      refine h_isYr C.ex_BadJournal C.kit_BadJournal_BadJournal (.inr ⟨d, _, rfl, hd⟩) ?_
      walk_at "gs"
      refine h_isYt C.ex_BadJournal C.kit_BadJournal_ValueError (.inr ⟨d, _, rfl, hd⟩) ?_
      walk_at "gs"
      refine h_xf hd rfl ?_
      walk_at "gs"
      exact k H' kb t
  · rintro σ H' ⟨e, kb, t⟩
    walk_at "gs"
    have k := k H' kb t
    rw [e] at k
    exact k

/-! ### the law's journals -/
def JC (c : List Int) : List Int := two c.length ++ c
theorem jr_ent {m : Nat} {c rest : List Int} {b : Bool} {pl : Nat} {n : Str} {us : List V} (hl : c.length < 65536) (he : pEntry c = some (n, us)) (hb : decide (n = ("start" : Str)) = b) : jr (m + 1) (JC c ++ rest) b pl = jr m rest false (pl + 2 + c.length) := by
  show jr (m + 1) (((c.length % 256 : Nat) : Int) :: ((c.length / 256 : Nat) : Int) :: (c ++ rest)) b pl = _
  have e : ((c.length % 256 : Nat) : Int) + 256 * ((c.length / 256 : Nat) : Int) = (c.length : Nat) := by omega
  rw [jr_long, if_neg (by omega), e, if_neg (by rw [List.length_append]; omega), Int.toNat_natCast, List.take_left, List.drop_left, he]
  exact if_pos hb
theorem jr_bad {m : Nat} {c rest : List Int} {b : Bool} {pl : Nat} (hl : c.length < 65536) (he : pEntry c = none ∨ ∃ n us, pEntry c = some (n, us) ∧ decide (n = ("start" : Str)) = !b) : jr (m + 1) (JC c ++ rest) b pl = pl := by
  show jr (m + 1) (((c.length % 256 : Nat) : Int) :: ((c.length / 256 : Nat) : Int) :: (c ++ rest)) b pl = _
  have e : ((c.length % 256 : Nat) : Int) + 256 * ((c.length / 256 : Nat) : Int) = (c.length : Nat) := by omega
  rw [jr_long, if_neg (by omega), e, if_neg (by rw [List.length_append]; omega), Int.toNat_natCast, List.take_left]
  rcases he with he | ⟨n, us, he, hb⟩
  · rw [he]
  · rw [he]
    refine if_neg fun z => ?_
    have z : decide (n = ("start" : Str)) = b := z
    rw [hb] at z
    cases b <;> exact nomatch z
theorem jr_end {m : Nat} {pl : Nat} : jr (m + 1) [] false pl = -1 := rfl
def textS : Str := "record a 1 { n: u8; }"
def cStart : List Int := 0 :: (two 64 ++ sgs textS)
def rightC : List (List Int) := [[13], [6, 0, 3, 0, 0, 0], [4, 0, 1, 0, 0, 0, 1, 108, 2], [12]]
def wrongC : List (List Int) := [cStart, [19], [255], [], [13, 0], [6, 0, 1, 0, 0], [6, 0, 1, 0, 0, 0, 0], [6, 3, 1, 0, 0, 0], [256], [6, 2, 1, 0, 0, 0], [5, 0, 1, 0, 0, 0, 3, 97], [1]]
def isSt (c : List Int) : Option Bool := (pEntry c).map fun e => decide (e.1 = ("start" : Str))
theorem right_ok : ∀ c ∈ rightC, isSt c = some false ∧ c.length ≤ 9 := by decide +kernel
theorem start_ok : isSt cStart = some true ∧ cStart.length = 24 := by decide +kernel
theorem wrong_ok : ∀ c ∈ wrongC, (isSt c = none ∨ isSt c = some true) ∧ c.length ≤ 24 := by decide +kernel
theorem isSt_some {c : List Int} {b : Bool} (h : isSt c = some b) : ∃ n us, pEntry c = some (n, us) ∧ decide (n = ("start" : Str)) = b := by
  unfold isSt at h
  cases e : pEntry c with
  | none => rw [e] at h; exact nomatch h
  | some r =>
    rw [e] at h
    exact ⟨r.1, r.2, rfl, Option.some.inj h⟩
theorem isSt_none {c : List Int} (h : isSt c = none) : pEntry c = none := by
  unfold isSt at h
  cases e : pEntry c with
  | none => rfl
  | some r => rw [e] at h; exact nomatch h
theorem JC_len (c : List Int) : (JC c).length = 2 + c.length := by
  unfold JC two
  rw [List.length_append]
  rfl
/-- right entries behind one another, read on -/
theorem jr_rights : ∀ {es : List (List Int)} {m : Nat} {rest : List Int} {pl : Nat}, (∀ c ∈ es, c ∈ rightC) → es.length ≤ m → ∃ m', m' = m - es.length ∧ jr m ((es.map JC).flatten ++ rest) false pl = jr m' rest false (pl + ((es.map JC).flatten).length)
  | [], m, rest, pl, _, _ => ⟨m, rfl, rfl⟩
  | c :: es, m, rest, pl, h, hm => by
    obtain ⟨m, rfl⟩ : ∃ k, m = k + 1 := ⟨m - 1, by rw [List.length_cons] at hm; omega⟩
    obtain ⟨r1, r2⟩ := right_ok c (h c List.mem_cons_self)
    obtain ⟨n, us, e1, e2⟩ := isSt_some r1
    rw [List.length_cons] at hm
    obtain ⟨m', q1, q2⟩ := jr_rights (m := m) (rest := rest) (pl := pl + 2 + c.length) (fun d hd => h d (List.mem_cons_of_mem _ hd)) (by omega)
    refine ⟨m', by rw [List.length_cons]; omega, ?_⟩
    rw [List.map_cons, List.flatten_cons, List.append_assoc, jr_ent (by omega) e1 e2, q2, List.length_append, JC_len]
    congr 1
    omega
def jour (es : List (List Int)) : List Int := JC cStart ++ (es.map JC).flatten
theorem flat_len11 : ∀ {es : List (List Int)}, (∀ c ∈ es, c ∈ rightC) → ((es.map JC).flatten).length ≤ 11 * es.length ∧ es.length ≤ ((es.map JC).flatten).length
  | [], _ => ⟨Nat.le_refl _, Nat.le_refl _⟩
  | c :: es, h => by
    obtain ⟨h1, h2⟩ := flat_len11 (es := es) fun d hd => h d (List.mem_cons_of_mem _ hd)
    have := (right_ok c (h c List.mem_cons_self)).2
    rw [List.map_cons, List.flatten_cons, List.length_append, JC_len, List.length_cons]
    omega
theorem jour_len {es : List (List Int)} (h : ∀ c ∈ es, c ∈ rightC) : (jour es).length ≤ 26 + 11 * es.length ∧ es.length + 26 ≤ (jour es).length := by
  obtain ⟨h1, h2⟩ := flat_len11 h
  unfold jour
  rw [List.length_append, JC_len, start_ok.2]
  omega
/-- the journal itself -/
theorem jr_whole {es : List (List Int)} (h : ∀ c ∈ es, c ∈ rightC) : jr ((jour es).length + 1) (jour es) true 0 = -1 := by
  have hl := jour_len h
  obtain ⟨n, us, e1, e2⟩ := isSt_some start_ok.1
  obtain ⟨m', q1, q2⟩ := jr_rights (m := (jour es).length) (rest := []) (pl := 0 + 2 + cStart.length) h (by omega)
  have e : jour es = JC cStart ++ ((es.map JC).flatten ++ []) := by rw [List.append_nil]; rfl
  have q3 := jr_ent (m := (jour es).length) (rest := (es.map JC).flatten ++ []) (pl := 0) (b := true) (by rw [start_ok.2]; decide) e1 e2
  rw [← e, q2] at q3
  obtain ⟨k, hk⟩ : ∃ k, m' = k + 1 := ⟨m' - 1, by omega⟩
  rw [q3, hk]
  rfl
/-- behind it an entry that is none -/
theorem jr_wrong {es : List (List Int)} {w : List Int} {rest : List Int} (h : ∀ c ∈ es, c ∈ rightC) (hw : w ∈ wrongC) {m : Nat} (hm : es.length + 2 ≤ m) : jr m (jour es ++ JC w ++ rest) true 0 = ((jour es).length : Nat) := by
  obtain ⟨m, rfl⟩ : ∃ k, m = k + 1 := ⟨m - 1, by omega⟩
  obtain ⟨n, us, e1, e2⟩ := isSt_some start_ok.1
  obtain ⟨m', q1, q2⟩ := jr_rights (m := m) (rest := JC w ++ rest) (pl := 0 + 2 + cStart.length) h (by omega)
  have e : jour es ++ JC w ++ rest = JC cStart ++ ((es.map JC).flatten ++ (JC w ++ rest)) := by
    unfold jour
    simp only [List.append_assoc]
  rw [e, jr_ent (by rw [start_ok.2]; decide) e1 e2, q2]
  obtain ⟨k, hk⟩ : ∃ k, m' = k + 1 := ⟨m' - 1, by omega⟩
  obtain ⟨w1, w2⟩ := wrong_ok w hw
  rw [hk, jr_bad (by omega) (w1.imp isSt_none fun q => isSt_some q)]
  unfold jour
  rw [List.length_append, JC_len, Nat.zero_add]
/-- a right entry ahead of it -/
theorem jr_first {c rest : List Int} {m : Nat} (hc : c ∈ rightC) : jr (m + 1) (JC c ++ rest) true 0 = 0 := by
  obtain ⟨r1, r2⟩ := right_ok c hc
  obtain ⟨n, us, e1, e2⟩ := isSt_some r1
  exact jr_bad (by omega) (.inr ⟨n, us, e1, e2⟩)
def sp_law (K : PySem.W.Frag) (A : Ad) : Sp := fun vs H Q _ => ∃ (a : Addr) (ns : List Int), vs = [.ref a] ∧ SqL K H a (ns.map V.int) ∧ Tabs A H ∧ ∀ H', Q (.bl true) H'
section
variable {K : PySem.W.Frag} {A : Ad} {H0 H : Hp} {S : List Addr} {L : List (Addr × Ent)} {I : List (V × PyData)} {Q : VK} {E : XK} {a : Addr} {ds : List PyData}
theorem im_sqT {us : List V} (h : Im K H (.ref a) (.tuple ds)) (hv : Rs.vOfs ds = some us) : SqT K H a us := by
  cases h with
  | tup hs ha =>
    rw [ha.vOfs hv] at hs
    exact hs
theorem h_we {n : Str} {us : List V} {c : List Int} {tp : Addr} (h : Led K H0 S H L I) (hs : SqT K H tp us) (hc : Cont n us c) (k : ∀ p H', (H0 p = none ∨ p ∈ S) → Led K H0 S H' ((p, .raw (.lst ((JC c).map V.int))) :: L) I → Q (.ref p) H') : sp_write_entry K A [.str n, .ref tp] H Q E :=
  ⟨n, tp, us, c, rfl, hs, hc, fun p H' s np hp => k p H' (h.fr np) (h.new s np hp)⟩
theorem h_lrd {ns : List Int} {nu : Addr} {ps0 ps1 : Array Value} {R : Int} (n m0 m1 : Nat) (h : Led K H0 S H L I) (e : L[n]? = some (nu, .raw (.lst (ns.map V.int)))) (e0 : L[m0]? = some (A.t 0, .raw (.tbl ps0))) (e1 : L[m1]? = some (A.t 1, .raw (.tbl ps1))) (hm : m0 ≠ m1)
    (o0 : TbOk ps0) (o1 : TbOk ps1) (s0 : A.t 0 ∈ S) (s1 : A.t 1 ∈ S) (h01 : A.t 0 ≠ A.t 1) (hl : ns.length ≤ 100000) (hR : jr (ns.length + 1) ns true 0 = R)
    (k : ∀ H' q0 q1, TbOk q0 → TbOk q1 → Led K H0 S H' ((L.set m0 (A.t 0, .raw (.tbl q0))).set m1 (A.t 1, .raw (.tbl q1))) I → Q (.int R) H') : sp__law_read K A [.ref nu] H Q E := by
  refine ⟨nu, ns, rfl, h.raw n e, hl, ⟨h01, h.tabG m0 e0 o0, h.tabG m1 e1 o1⟩, fun H' kb t => ?_⟩
  obtain ⟨p0, p1, o0', o1', h2⟩ := h.tab2 m0 m1 e0 e1 hm s0 s1 kb t.2.1 t.2.2
  rw [hR]
  exact k H' p0 p1 o0' o1' h2
theorem h_pick {xs : List V} {j : Int} (n : Nat) (h : Led K H0 S H L I) (e : L[n]? = some (a, .raw (.lst xs))) (h0 : 0 ≤ j) (h1 : j < xs.length) (k : ∀ v, v ∈ xs → Q v H) : rIx K (.ref a) (.int j) H Q := by
  have hj : j.toNat < xs.length := by omega
  exact h_ixL n h e (at_nn h0 (List.getElem?_eq_getElem hj)) (k _ (List.getElem_mem hj))
end
theorem textS_ok : okT textS ∧ textS.cps.size ≤ 1000 := by
  have q : (textS.cps.toList.all okS && decide (textS.cps.size ≤ 1000)) = true := by decide +kernel
  simp only [Bool.and_eq_true, decide_eq_true_eq] at q
  exact ⟨List.all_eq_true.mp q.1, q.2⟩
theorem ct_start : Cont "start" [.int (64 : Nat), .str textS] cStart := .start 64 textS (by decide) textS_ok.2 textS_ok.1
theorem f_3 : forms[3]? = some ((("push" : Str), (⟨#[105, 116, 73]⟩ : Str)) : Str × Str) := by decide +kernel
theorem f_5 : forms[5]? = some ((("delete" : Str), (⟨#[105]⟩ : Str)) : Str × Str) := by decide +kernel
theorem f_11 : forms[11]? = some ((("commit" : Str), (⟨#[]⟩ : Str)) : Str × Str) := by decide +kernel
theorem f_12 : forms[12]? = some ((("device" : Str), (⟨#[]⟩ : Str)) : Str × Str) := by decide +kernel
theorem ct_of {i : Nat} {n ks : Str} {us : List V} {c : List Int} (e : forms[i]? = some (n, ks)) (ok : okAs ks.cps.toList us) (hc : ((i + 1 : Nat) : Int) :: encAs ks.cps.toList us = c) : Cont n us c := by
  rw [← hc]
  exact .call i n ks us e ok
theorem ct_device : Cont "device" [] [13] := ct_of f_12 trivial rfl
theorem ct_commit : Cont "commit" [] [12] := ct_of f_11 trivial rfl
theorem ct_delete : Cont "delete" [.int 3] [6, 0, 3, 0, 0, 0] := ct_of f_5 ⟨⟨.inl rfl, by decide, by decide⟩, trivial⟩ (by decide +kernel)
theorem ct_push : Cont "push" [.int 1, .str "l", .non] [4, 0, 1, 0, 0, 0, 1, 108, 2] := ct_of f_3 ⟨⟨.inl rfl, by decide, by decide⟩, ⟨.inl rfl, by decide +kernel, fun c hc => List.all_eq_true.mp (show ("l" : Str).cps.toList.all okS = true by decide +kernel) c hc⟩, .inl rfl, trivial⟩ (by decide +kernel)
theorem jour_snoc (es : List (List Int)) (c : List Int) : jour (es ++ [c]) = jour es ++ JC c := by
  unfold jour
  rw [List.map_append, List.flatten_append, List.append_assoc]
  show _ ++ (_ ++ (JC c ++ [])) = _
  rw [List.append_nil]
theorem h_no {p : Prop} [Decidable p] {A B : Prop} (hp : p) (k : B) : if (!decide p) = true then A else B := by
  rw [decide_eq_true hp]
  exact iteF k

def t_law (K : PySem.W.Frag) (A : Ad) : TS :=
  (tSeq (tAsg (tLst (tCons (tCall (sp__law_digits K A) [] E0 (tCons (mV 0) (tCons (tC (.int 0)) (tCons (tC (.int 20)) tNil)))) (tCons (tC (.int 0)) tNil))) (gName 1))
  (tSeq (tAsg (tCall (sp_write_entry K A) [] E0 (tCons (tC (.str "start")) (tCons (tTup (tCons (tC (.int 64)) (tCons (tC (.str "record a 1 { n: u8; }")) tNil))) tNil))) (gName 2))
  (tSeq (tAsg (tCB (hListOf K) (tCons (mV 2) tNil)) (gName 3))
  (tSeq (tAsg (tLst (tCons (tCall (sp_write_entry K A) [] E0 (tCons (tC (.str "device")) (tCons (tTup tNil) tNil))) (tCons (tCall (sp_write_entry K A) [] E0 (tCons (tC (.str "delete")) (tCons (tTup (tCons (tC (.int 3)) tNil)) tNil))) (tCons (tCall (sp_write_entry K A) [] E0 (tCons (tC (.str "push")) (tCons (tTup (tCons (tC (.int 1)) (tCons (tC (.str "l")) (tCons (tC .non) tNil)))) tNil))) (tCons (tCall (sp_write_entry K A) [] E0 (tCons (tC (.str "commit")) (tCons (tTup tNil) tNil))) tNil))))) (gName 4))
  (tSeq (tFor (jR1 (tCons (tCall (sp__law_draw K A) [] E0 (tCons (mV 1) (tCons (tC (.int 5)) tNil))) tNil)) (gName 5)
    (tAsg (tOp (mAdd K) (mV 3) (tOp (rIx K) (mV 4) (tCall (sp__law_draw K A) [] E0 (tCons (mV 1) (tCons (tC (.int 4)) tNil))))) (gName 3)))
  (tSeq (mIf (tOr (mTest (tOp (mNe K) (tCall (sp__law_read K A) [] E0 (tCons (mV 3) tNil)) (tUn mNeg (tC (.int 1))))) (tOr (mTest (tOp (mNe K) (tCall (sp__law_read K A) [] E0 (tCons (tOp (mAdd K) (tOp (rIx K) (mV 4) (tCall (sp__law_draw K A) [] E0 (tCons (mV 1) (tCons (tC (.int 4)) tNil)))) (mV 3)) tNil)) (tC (.int 0)))) (mTest (tOp (mNe K) (tCall (sp__law_read K A) [] E0 (tCons (tLst tNil) tNil)) (tC (.int 0))))))
    (tRet (tC (.bl false)))
    tNext)
  (tSeq (tAsg (tLst (tCons (mV 2) (tCons (tLst (tCons (tC (.int 1)) (tCons (tC (.int 0)) (tCons (tC (.int 19)) tNil)))) (tCons (tLst (tCons (tC (.int 1)) (tCons (tC (.int 0)) (tCons (tC (.int 255)) tNil)))) (tCons (tLst (tCons (tC (.int 0)) (tCons (tC (.int 0)) tNil))) (tCons (tLst (tCons (tC (.int 2)) (tCons (tC (.int 0)) (tCons (tC (.int 13)) (tCons (tC (.int 0)) tNil))))) (tCons (tLst (tCons (tC (.int 5)) (tCons (tC (.int 0)) (tCons (tC (.int 6)) (tCons (tC (.int 0)) (tCons (tC (.int 1)) (tCons (tC (.int 0)) (tCons (tC (.int 0)) tNil)))))))) (tCons (tLst (tCons (tC (.int 7)) (tCons (tC (.int 0)) (tCons (tC (.int 6)) (tCons (tC (.int 0)) (tCons (tC (.int 1)) (tCons (tC (.int 0)) (tCons (tC (.int 0)) (tCons (tC (.int 0)) (tCons (tC (.int 0)) tNil)))))))))) (tCons (tLst (tCons (tC (.int 6)) (tCons (tC (.int 0)) (tCons (tC (.int 6)) (tCons (tC (.int 3)) (tCons (tC (.int 1)) (tCons (tC (.int 0)) (tCons (tC (.int 0)) (tCons (tC (.int 0)) tNil))))))))) tNil))))))))) (gName 6))
  (tSeq (tAsg (tOp (mAdd K) (mV 6) (tLst (tCons (tLst (tCons (tC (.int 1)) (tCons (tC (.int 0)) (tCons (tC (.int 256)) tNil)))) (tCons (tLst (tCons (tC (.int 6)) (tCons (tC (.int 0)) (tCons (tC (.int 6)) (tCons (tC (.int 2)) (tCons (tC (.int 1)) (tCons (tC (.int 0)) (tCons (tC (.int 0)) (tCons (tC (.int 0)) tNil))))))))) (tCons (tLst (tCons (tC (.int 8)) (tCons (tC (.int 0)) (tCons (tC (.int 5)) (tCons (tC (.int 0)) (tCons (tC (.int 1)) (tCons (tC (.int 0)) (tCons (tC (.int 0)) (tCons (tC (.int 0)) (tCons (tC (.int 3)) (tCons (tC (.int 97)) tNil))))))))))) (tCons (tLst (tCons (tC (.int 1)) (tCons (tC (.int 0)) (tCons (tC (.int 1)) tNil)))) tNil)))))) (gName 6))
  (tSeq (tAsg (tCB (hLen K) (tCons (mV 3) tNil)) (gName 7))
  (tRet (tOp (mEq K) (tCall (sp__law_read K A) [] E0 (tCons (tOp (mAdd K) (tOp (mAdd K) (mV 3) (tOp (rIx K) (mV 6) (tCall (sp__law_draw K A) [] E0 (tCons (mV 1) (tCons (tC (.int 12)) tNil))))) (tOp (rIx K) (mV 4) (tCall (sp__law_draw K A) [] E0 (tCons (mV 1) (tCons (tC (.int 4)) tNil))))) tNil)) (mV 7))))))))))))
theorem rd_law {K : PySem.W.Frag} {A : Ad} {vs : List V} {H : Hp} {Q : VK} {E : XK} (h : sp_law K A vs H Q E) : t_law K A { nx := fun _ H' => Q .non H', rt := Q } (start ["_law_script", "_law_box", "_law_start", "_law_numbers", "_law_right", "_law_k", "_law_wrong", "_law_place"] vs) H := by
  obtain ⟨a, ns, rfl, ha, ⟨h01, ⟨ps0, hp0, ok0⟩, ⟨ps1, hp1, ok1⟩⟩, k⟩ := h
  show t_law K A _ [some (.ref a), none, none, none, none, none, none, none] H
  unfold t_law
  have hL : Led K H [A.t 0, A.t 1] H [(A.t 0, .raw (.tbl ps0)), (A.t 1, .raw (.tbl ps1))] [] := Led.mk2 hp0 hp1 h01
  walk_at "gs"
  refine ⟨a, ns, 0, 20, rfl, ha, by decide, by decide, by decide, by decide, fun g H1 ds s1 ng hg => ?_⟩
  have h1 := hL.new (e := .raw (.lst (ds.map V.int))) s1 ng hg
  clear hL
  walk_at "gs"
  rename_i b H2 nb h2 t1 H3 h3
  clear h1 h2
  refine h_we h3 (im_sqT (h3.im 0 _ _ rfl) rfl) ct_start fun st H4 nst h4 => ?_
  have h4 := h4.noI
  clear h3
  walk_at "gs"
  rename_i nu0 H5 nnu0 h5 t2 H6 h6
  clear h4 h5
  refine h_we h6 (im_sqT (h6.im 0 _ _ rfl) rfl) ct_device fun e0 H7 ne0 h7 => ?_
  have h7 := h7.noI
  clear h6
  walk_at "gs"
  rename_i t3 H8 h8
  clear h7
  refine h_we h8 (im_sqT (h8.im 0 _ _ rfl) rfl) ct_delete fun e1 H9 ne1 h9 => ?_
  have h9 := h9.noI
  clear h8
  walk_at "gs"
  rename_i t4 H10 h10
  clear h9
  refine h_we h10 (im_sqT (h10.im 0 _ _ rfl) rfl) ct_push fun e2 H11 ne2 h11 => ?_
  have h11 := h11.noI
  clear h10
  walk_at "gs"
  rename_i t5 H12 h12
  clear h11
  refine h_we h12 (im_sqT (h12.im 0 _ _ rfl) rfl) ct_commit fun e3 H13 ne3 h13 => ?_
  have h13 := h13.noI
  clear h12
  walk_at "gs"
  rename_i rt H14 nrt h14
  clear h13
  have h14 : Led K H [A.t 0, A.t 1] H14 [(b, .raw (.lst [.ref g, .int 0])), (g, .raw (.lst (ds.map V.int))), (A.t 0, .raw (.tbl ps0)), (A.t 1, .raw (.tbl ps1)), (rt, .raw (.lst [.ref e0, .ref e1, .ref e2, .ref e3])), (e0, .raw (.lst ((JC [13]).map V.int))), (e1, .raw (.lst ((JC [6, 0, 3, 0, 0, 0]).map V.int))), (e2, .raw (.lst ((JC [4, 0, 1, 0, 0, 0, 1, 108, 2]).map V.int))), (e3, .raw (.lst ((JC [12]).map V.int))), (st, .raw (.lst ((JC cStart).map V.int))), (nu0, .raw (.lst ((JC cStart).map V.int)))] [] := h14.pick [7, 8, 9, 10, 0, 4, 3, 2, 1, 6, 5]
  refine h_draw 0 h14 rfl rfl (by decide) (by decide) (by decide) nb fun z0 H15 z00 z01 h15 => ?_
  clear h14
  walk_at "gs"
  refine lpR (fun u σ H2 => ∃ (es : List (List Int)) (nu : Addr) (y5 : Option V) (j : Int), σ = [some (.ref a), some (.ref b), some (.ref st), some (.ref nu), some (.ref rt), y5, none, none] ∧ es.length = u ∧ (∀ c ∈ es, c ∈ rightC) ∧ 0 ≤ j ∧ j ≤ 10 + u ∧ Led K H [A.t 0, A.t 1] H2 [(b, .raw (.lst [.ref g, .int j])), (g, .raw (.lst (ds.map V.int))), (A.t 0, .raw (.tbl ps0)), (A.t 1, .raw (.tbl ps1)), (rt, .raw (.lst [.ref e0, .ref e1, .ref e2, .ref e3])), (e0, .raw (.lst ((JC [13]).map V.int))), (e1, .raw (.lst ((JC [6, 0, 3, 0, 0, 0]).map V.int))), (e2, .raw (.lst ((JC [4, 0, 1, 0, 0, 0, 1, 108, 2]).map V.int))), (e3, .raw (.lst ((JC [12]).map V.int))), (st, .raw (.lst ((JC cStart).map V.int))), (nu, .raw (.lst ((jour es).map V.int)))] [])
    ⟨[], nu0, _, _, rfl, rfl, (fun c hc => nomatch hc), by decide, by decide, h15⟩ ?_ ?_
  · clear h15
    rintro u σ H2 hu ⟨es, nu, y5, j, rfl, hel, hes, j0, j1, h2⟩
    have hu : u < 5 := by omega
    have hjl := jour_len hes
    walk_at "gs"
    rename_i z1 H3 z10 z11 h3
    clear h2
    refine h_pick 4 h3 rfl (by omega) (by show _ < 4; omega) fun v hv => ?_
    obtain ⟨p, c, n, rfl, hc, he⟩ : ∃ (p : Addr) (c : List Int) (n : Nat), v = V.ref p ∧ c ∈ rightC ∧ ([(b, .raw (.lst [.ref g, .int (j + 1)])), (g, .raw (.lst (ds.map V.int))), (A.t 0, .raw (.tbl ps0)), (A.t 1, .raw (.tbl ps1)), (rt, .raw (.lst [.ref e0, .ref e1, .ref e2, .ref e3])), (e0, .raw (.lst ((JC [13]).map V.int))), (e1, .raw (.lst ((JC [6, 0, 3, 0, 0, 0]).map V.int))), (e2, .raw (.lst ((JC [4, 0, 1, 0, 0, 0, 1, 108, 2]).map V.int))), (e3, .raw (.lst ((JC [12]).map V.int))), (st, .raw (.lst ((JC cStart).map V.int))), (nu, .raw (.lst ((jour es).map V.int)))] : List (Addr × Ent))[n]? = some (p, .raw (.lst ((JC c).map V.int))) := by
      simp only [List.mem_cons, List.not_mem_nil, or_false] at hv
      rcases hv with rfl | rfl | rfl | rfl
      · exact ⟨e0, [13], 5, rfl, by simp [rightC], rfl⟩
      · exact ⟨e1, [6, 0, 3, 0, 0, 0], 6, rfl, by simp [rightC], rfl⟩
      · exact ⟨e2, [4, 0, 1, 0, 0, 0, 1, 108, 2], 7, rfl, by simp [rightC], rfl⟩
      · exact ⟨e3, [12], 8, rfl, by simp [rightC], rfl⟩
    have hcl := (right_ok c hc).2
    refine h_catG 10 n h3 rfl he (by rw [List.length_map, List.length_map, JC_len, sizeLine_eq]; omega) fun nu2 H4 nnu2 h4 => ?_
    rw [← List.map_append, ← jour_snoc] at h4
    have h4 : Led K H [A.t 0, A.t 1] H4 [(b, .raw (.lst [.ref g, .int (j + 1)])), (g, .raw (.lst (ds.map V.int))), (A.t 0, .raw (.tbl ps0)), (A.t 1, .raw (.tbl ps1)), (rt, .raw (.lst [.ref e0, .ref e1, .ref e2, .ref e3])), (e0, .raw (.lst ((JC [13]).map V.int))), (e1, .raw (.lst ((JC [6, 0, 3, 0, 0, 0]).map V.int))), (e2, .raw (.lst ((JC [4, 0, 1, 0, 0, 0, 1, 108, 2]).map V.int))), (e3, .raw (.lst ((JC [12]).map V.int))), (st, .raw (.lst ((JC cStart).map V.int))), (nu2, .raw (.lst ((jour (es ++ [c])).map V.int)))] [] := h4.pick [1, 2, 3, 4, 5, 6, 7, 8, 9, 10, 0]
    clear h3
    walk_at "gs"
    refine ⟨es ++ [c], nu2, _, _, rfl, by rw [List.length_append, hel]; rfl, fun d hd => ?_, by omega, by omega, h4⟩
    rcases List.mem_append.mp hd with hd | hd
    · exact hes d hd
    · rw [List.mem_singleton.mp hd]
      exact hc
  · clear h15
    rintro σ H2 ⟨es, nu, y5, j, rfl, hel, hes, j0, j1, h2⟩
    have hel : es.length ≤ 5 := by omega
    have hjl := jour_len hes
    walk_at "gs"
    refine h_lrd 10 2 3 h2 rfl rfl rfl (by decide) ok0 ok1 (by simp) (by simp) h01 (by omega) (jr_whole hes) fun H3 q0 q1 o0 o1 h3 => ?_
    clear h2
    have h3 : Led K H [A.t 0, A.t 1] H3 [(b, .raw (.lst [.ref g, .int j])), (g, .raw (.lst (ds.map V.int))), (A.t 0, .raw (.tbl q0)), (A.t 1, .raw (.tbl q1)), (rt, .raw (.lst [.ref e0, .ref e1, .ref e2, .ref e3])), (e0, .raw (.lst ((JC [13]).map V.int))), (e1, .raw (.lst ((JC [6, 0, 3, 0, 0, 0]).map V.int))), (e2, .raw (.lst ((JC [4, 0, 1, 0, 0, 0, 1, 108, 2]).map V.int))), (e3, .raw (.lst ((JC [12]).map V.int))), (st, .raw (.lst ((JC cStart).map V.int))), (nu, .raw (.lst ((jour es).map V.int)))] [] := h3
    walk_at "gs"
    refine h_no rfl ?_
    walk_at "gs"
    rename_i z2 H4 z20 z21 h4
    clear h3
    refine h_pick 4 h4 rfl (by omega) (by show _ < 4; omega) fun v hv => ?_
    obtain ⟨p, c, n, rfl, hc, he⟩ : ∃ (p : Addr) (c : List Int) (n : Nat), v = V.ref p ∧ c ∈ rightC ∧ ([(b, .raw (.lst [.ref g, .int (j + 1)])), (g, .raw (.lst (ds.map V.int))), (A.t 0, .raw (.tbl q0)), (A.t 1, .raw (.tbl q1)), (rt, .raw (.lst [.ref e0, .ref e1, .ref e2, .ref e3])), (e0, .raw (.lst ((JC [13]).map V.int))), (e1, .raw (.lst ((JC [6, 0, 3, 0, 0, 0]).map V.int))), (e2, .raw (.lst ((JC [4, 0, 1, 0, 0, 0, 1, 108, 2]).map V.int))), (e3, .raw (.lst ((JC [12]).map V.int))), (st, .raw (.lst ((JC cStart).map V.int))), (nu, .raw (.lst ((jour es).map V.int)))] : List (Addr × Ent))[n]? = some (p, .raw (.lst ((JC c).map V.int))) := by
      simp only [List.mem_cons, List.not_mem_nil, or_false] at hv
      rcases hv with rfl | rfl | rfl | rfl
      · exact ⟨e0, [13], 5, rfl, by simp [rightC], rfl⟩
      · exact ⟨e1, [6, 0, 3, 0, 0, 0], 6, rfl, by simp [rightC], rfl⟩
      · exact ⟨e2, [4, 0, 1, 0, 0, 0, 1, 108, 2], 7, rfl, by simp [rightC], rfl⟩
      · exact ⟨e3, [12], 8, rfl, by simp [rightC], rfl⟩
    have hcl := (right_ok c hc).2
    refine h_catG n 10 h4 he rfl (by rw [List.length_map, List.length_map, JC_len, sizeLine_eq]; omega) fun n2 H5 nn2 h5 => ?_
    rw [← List.map_append] at h5
    clear h4
    refine h_lrd 0 3 4 h5 rfl rfl rfl (by decide) o0 o1 (by simp) (by simp) h01 (by rw [List.length_append, JC_len]; omega) (jr_first hc) fun H6 q2 q3 o2 o3 h6 => ?_
    clear h5
    have h6 : Led K H [A.t 0, A.t 1] H6 [(b, .raw (.lst [.ref g, .int (j + 1)])), (g, .raw (.lst (ds.map V.int))), (A.t 0, .raw (.tbl q2)), (A.t 1, .raw (.tbl q3)), (rt, .raw (.lst [.ref e0, .ref e1, .ref e2, .ref e3])), (e0, .raw (.lst ((JC [13]).map V.int))), (e1, .raw (.lst ((JC [6, 0, 3, 0, 0, 0]).map V.int))), (e2, .raw (.lst ((JC [4, 0, 1, 0, 0, 0, 1, 108, 2]).map V.int))), (e3, .raw (.lst ((JC [12]).map V.int))), (st, .raw (.lst ((JC cStart).map V.int))), (nu, .raw (.lst ((jour es).map V.int)))] [] := h6.tlL
    walk_at "gs"
    refine h_no rfl ?_
    walk_at "gs"
    rename_i n3 H7 nn3 h7
    clear h6
    refine h_lrd (ns := []) (R := 0) 0 3 4 h7 rfl rfl rfl (by decide) o2 o3 (by simp) (by simp) h01 (by decide) rfl fun H8 q4 q5 o4 o5 h8 => ?_
    clear h7
    have h8 : Led K H [A.t 0, A.t 1] H8 [(b, .raw (.lst [.ref g, .int (j + 1)])), (g, .raw (.lst (ds.map V.int))), (A.t 0, .raw (.tbl q4)), (A.t 1, .raw (.tbl q5)), (rt, .raw (.lst [.ref e0, .ref e1, .ref e2, .ref e3])), (e0, .raw (.lst ((JC [13]).map V.int))), (e1, .raw (.lst ((JC [6, 0, 3, 0, 0, 0]).map V.int))), (e2, .raw (.lst ((JC [4, 0, 1, 0, 0, 0, 1, 108, 2]).map V.int))), (e3, .raw (.lst ((JC [12]).map V.int))), (st, .raw (.lst ((JC cStart).map V.int))), (nu, .raw (.lst ((jour es).map V.int)))] [] := h8.tlL
    walk_at "gs"
    refine h_brn (fun z => absurd rfl z) fun _ => ?_
    walk_at "gs"
    rename_i l1 K1 nl19 k1 l2 K2 nl29 k2 l3 K3 nl39 k3 l4 K4 nl49 k4 l5 K5 nl59 k5 l6 K6 nl69 k6 l7 K7 nl79 k7 w1 K8 nw19 k8 m0 K9 nm09 k9 m1 K10 nm19 k10 m2 K11 nm29 k11 m3 K12 nm39 k12 w2 K13 nw29 k13
    clear h8 k1 k2 k3 k4 k5 k6 k7 k8 k9 k10 k11 k12
    refine h_catG 5 0 k13 rfl rfl (by rw [sizeLine_eq]; show 8 + 4 ≤ 16777216; decide) fun w3 H9 nw3 h9 => ?_
    clear k13
    walk_at "gs"
    refine h_lenL 24 h9 rfl ?_
    walk_at "gs"
    refine h_draw 14 h9 rfl rfl (by omega) (by omega) (by decide) nb fun z3 H10 z30 z31 h10 => ?_
    clear h9
    refine h_pick 0 h10 rfl (by omega) (by show _ < 12; omega) fun v hv => ?_
    obtain ⟨pw, w, nw, rfl, hw, hwe⟩ : ∃ (p : Addr) (w : List Int) (n : Nat), v = V.ref p ∧ w ∈ wrongC ∧ ([(w3, .raw (.lst [.ref st, .ref l1, .ref l2, .ref l3, .ref l4, .ref l5, .ref l6, .ref l7, .ref m0, .ref m1, .ref m2, .ref m3])), (w2, .raw (.lst [.ref m0, .ref m1, .ref m2, .ref m3])), (m3, .raw (.lst [.int 1, .int 0, .int 1])), (m2, .raw (.lst [.int 8, .int 0, .int 5, .int 0, .int 1, .int 0, .int 0, .int 0, .int 3, .int 97])), (m1, .raw (.lst [.int 6, .int 0, .int 6, .int 2, .int 1, .int 0, .int 0, .int 0])), (m0, .raw (.lst [.int 1, .int 0, .int 256])), (w1, .raw (.lst [.ref st, .ref l1, .ref l2, .ref l3, .ref l4, .ref l5, .ref l6, .ref l7])), (l7, .raw (.lst [.int 6, .int 0, .int 6, .int 3, .int 1, .int 0, .int 0, .int 0])), (l6, .raw (.lst [.int 7, .int 0, .int 6, .int 0, .int 1, .int 0, .int 0, .int 0, .int 0])), (l5, .raw (.lst [.int 5, .int 0, .int 6, .int 0, .int 1, .int 0, .int 0])), (l4, .raw (.lst [.int 2, .int 0, .int 13, .int 0])), (l3, .raw (.lst [.int 0, .int 0])), (l2, .raw (.lst [.int 1, .int 0, .int 255])), (l1, .raw (.lst [.int 1, .int 0, .int 19])), (b, .raw (.lst [.ref g, .int (j + 1 + 1)])), (g, .raw (.lst (ds.map V.int))), (A.t 0, .raw (.tbl q4)), (A.t 1, .raw (.tbl q5)), (rt, .raw (.lst [.ref e0, .ref e1, .ref e2, .ref e3])), (e0, .raw (.lst ((JC [13]).map V.int))), (e1, .raw (.lst ((JC [6, 0, 3, 0, 0, 0]).map V.int))), (e2, .raw (.lst ((JC [4, 0, 1, 0, 0, 0, 1, 108, 2]).map V.int))), (e3, .raw (.lst ((JC [12]).map V.int))), (st, .raw (.lst ((JC cStart).map V.int))), (nu, .raw (.lst ((jour es).map V.int)))] : List (Addr × Ent))[n]? = some (p, .raw (.lst ((JC w).map V.int))) := by
      simp only [List.mem_append, List.mem_cons, List.not_mem_nil, or_false] at hv
      rcases hv with (rfl | rfl | rfl | rfl | rfl | rfl | rfl | rfl) | rfl | rfl | rfl | rfl
      · exact ⟨st, cStart, 23, rfl, by simp [wrongC], rfl⟩
      · exact ⟨l1, [19], 13, rfl, by simp [wrongC], rfl⟩
      · exact ⟨l2, [255], 12, rfl, by simp [wrongC], rfl⟩
      · exact ⟨l3, [], 11, rfl, by simp [wrongC], rfl⟩
      · exact ⟨l4, [13, 0], 10, rfl, by simp [wrongC], rfl⟩
      · exact ⟨l5, [6, 0, 1, 0, 0], 9, rfl, by simp [wrongC], rfl⟩
      · exact ⟨l6, [6, 0, 1, 0, 0, 0, 0], 8, rfl, by simp [wrongC], rfl⟩
      · exact ⟨l7, [6, 3, 1, 0, 0, 0], 7, rfl, by simp [wrongC], rfl⟩
      · exact ⟨m0, [256], 5, rfl, by simp [wrongC], rfl⟩
      · exact ⟨m1, [6, 2, 1, 0, 0, 0], 4, rfl, by simp [wrongC], rfl⟩
      · exact ⟨m2, [5, 0, 1, 0, 0, 0, 3, 97], 3, rfl, by simp [wrongC], rfl⟩
      · exact ⟨m3, [1], 2, rfl, by simp [wrongC], rfl⟩
    have hwl := (wrong_ok w hw).2
    walk_at "gs"
    refine h_catG 24 nw h10 rfl hwe (by rw [List.length_map, List.length_map, JC_len, sizeLine_eq]; omega) fun r1 H11 nr1 h11 => ?_
    rw [← List.map_append] at h11
    clear h10
    walk_at "gs"
    refine h_draw 15 h11 rfl rfl (by omega) (by omega) (by decide) nb fun z4 H12 z40 z41 h12 => ?_
    clear h11
    refine h_pick 19 h12 rfl (by omega) (by show _ < 4; omega) fun v hv => ?_
    obtain ⟨p, c, n, rfl, hc, he⟩ : ∃ (p : Addr) (c : List Int) (n : Nat), v = V.ref p ∧ c ∈ rightC ∧ ([(r1, .raw (.lst ((jour es ++ JC w).map V.int))), (w3, .raw (.lst [.ref st, .ref l1, .ref l2, .ref l3, .ref l4, .ref l5, .ref l6, .ref l7, .ref m0, .ref m1, .ref m2, .ref m3])), (w2, .raw (.lst [.ref m0, .ref m1, .ref m2, .ref m3])), (m3, .raw (.lst [.int 1, .int 0, .int 1])), (m2, .raw (.lst [.int 8, .int 0, .int 5, .int 0, .int 1, .int 0, .int 0, .int 0, .int 3, .int 97])), (m1, .raw (.lst [.int 6, .int 0, .int 6, .int 2, .int 1, .int 0, .int 0, .int 0])), (m0, .raw (.lst [.int 1, .int 0, .int 256])), (w1, .raw (.lst [.ref st, .ref l1, .ref l2, .ref l3, .ref l4, .ref l5, .ref l6, .ref l7])), (l7, .raw (.lst [.int 6, .int 0, .int 6, .int 3, .int 1, .int 0, .int 0, .int 0])), (l6, .raw (.lst [.int 7, .int 0, .int 6, .int 0, .int 1, .int 0, .int 0, .int 0, .int 0])), (l5, .raw (.lst [.int 5, .int 0, .int 6, .int 0, .int 1, .int 0, .int 0])), (l4, .raw (.lst [.int 2, .int 0, .int 13, .int 0])), (l3, .raw (.lst [.int 0, .int 0])), (l2, .raw (.lst [.int 1, .int 0, .int 255])), (l1, .raw (.lst [.int 1, .int 0, .int 19])), (b, .raw (.lst [.ref g, .int (j + 1 + 1 + 1)])), (g, .raw (.lst (ds.map V.int))), (A.t 0, .raw (.tbl q4)), (A.t 1, .raw (.tbl q5)), (rt, .raw (.lst [.ref e0, .ref e1, .ref e2, .ref e3])), (e0, .raw (.lst ((JC [13]).map V.int))), (e1, .raw (.lst ((JC [6, 0, 3, 0, 0, 0]).map V.int))), (e2, .raw (.lst ((JC [4, 0, 1, 0, 0, 0, 1, 108, 2]).map V.int))), (e3, .raw (.lst ((JC [12]).map V.int))), (st, .raw (.lst ((JC cStart).map V.int))), (nu, .raw (.lst ((jour es).map V.int)))] : List (Addr × Ent))[n]? = some (p, .raw (.lst ((JC c).map V.int))) := by
      simp only [List.mem_cons, List.not_mem_nil, or_false] at hv
      rcases hv with rfl | rfl | rfl | rfl
      · exact ⟨e0, [13], 20, rfl, by simp [rightC], rfl⟩
      · exact ⟨e1, [6, 0, 3, 0, 0, 0], 21, rfl, by simp [rightC], rfl⟩
      · exact ⟨e2, [4, 0, 1, 0, 0, 0, 1, 108, 2], 22, rfl, by simp [rightC], rfl⟩
      · exact ⟨e3, [12], 23, rfl, by simp [rightC], rfl⟩
    have hcl := (right_ok c hc).2
    walk_at "gs"
    refine h_catG 0 n h12 rfl he (by rw [List.length_map, List.length_map, List.length_append, JC_len, JC_len, sizeLine_eq]; omega) fun r2 H13 nr2 h13 => ?_
    rw [← List.map_append] at h13
    clear h12
    walk_at "gs"
    refine h_lrd 0 18 19 h13 rfl rfl rfl (by decide) o4 o5 (by simp) (by simp) h01 (by rw [List.length_append, List.length_append, JC_len, JC_len]; omega) (jr_wrong hes hw (by rw [List.length_append, List.length_append]; omega)) fun H14 q6 q7 o6 o7 h14 => ?_
    walk_at "gs"
    rw [List.length_map, decide_eq_true rfl]
    exact k _

def topS (i : Nat) : Stmt := PySem.Challenge.pw_recstore_k30_journal_refused.main.body.getD i (.Pass ⟨0, 0, 0, 0⟩)
abbrev s_BadJournal___init__ : Stmt := inClass (topS 2) 0
abbrev nm_BadJournal___init__ : List Str := ["self", "place", "__class__"]
theorem sc_BadJournal___init__ : NdefX.NScope nm_BadJournal___init__ ["self", "place"] ["__class__"] (defScope s_BadJournal___init__) := NdefX.nscope_by (by decide +kernel)
abbrev s_two_numbers : Stmt := topS 15
abbrev nm_two_numbers : List Str := ["number"]
theorem sc_two_numbers : FnScope nm_two_numbers ["number"] (defScope s_two_numbers) := ⟨rfl, rfl, rfl, by decide +kernel, rfl, by decide +kernel, by decide +kernel⟩
abbrev s_write_integer : Stmt := topS 16
abbrev nm_write_integer : List Str := ["value", "numbers", "rest", "_"]
theorem sc_write_integer : FnScope nm_write_integer ["value"] (defScope s_write_integer) := ⟨rfl, rfl, rfl, by decide +kernel, rfl, by decide +kernel, by decide +kernel⟩
abbrev s_write_characters : Stmt := topS 17
abbrev nm_write_characters : List Str := ["text", "sign"]
theorem sc_write_characters : FnScope nm_write_characters ["text"] (defScope s_write_characters) := ⟨rfl, rfl, rfl, by decide +kernel, rfl, by decide +kernel, by decide +kernel⟩
abbrev s_write_argument : Stmt := topS 18
abbrev nm_write_argument : List Str := ["kind", "value"]
theorem sc_write_argument : FnScope nm_write_argument ["kind", "value"] (defScope s_write_argument) := ⟨rfl, rfl, rfl, by decide +kernel, rfl, by decide +kernel, by decide +kernel⟩
abbrev s_write_content : Stmt := topS 19
abbrev nm_write_content : List Str := ["name", "arguments", "names", "number", "numbers", "at", "kind", "row"]
theorem sc_write_content : FnScope nm_write_content ["name", "arguments"] (defScope s_write_content) := ⟨rfl, rfl, rfl, by decide +kernel, rfl, by decide +kernel, by decide +kernel⟩
abbrev s_write_entry : Stmt := topS 20
abbrev nm_write_entry : List Str := ["name", "arguments", "content"]
theorem sc_write_entry : FnScope nm_write_entry ["name", "arguments"] (defScope s_write_entry) := ⟨rfl, rfl, rfl, by decide +kernel, rfl, by decide +kernel, by decide +kernel⟩
abbrev s_Reading___init__ : Stmt := inClass (topS 21) 0
abbrev nm_Reading___init__ : List Str := ["self", "numbers"]
theorem sc_Reading___init__ : FnScope nm_Reading___init__ ["self", "numbers"] (defScope s_Reading___init__) := ⟨rfl, rfl, rfl, by decide +kernel, rfl, by decide +kernel, by decide +kernel⟩
abbrev s_Reading_next : Stmt := inClass (topS 21) 1
abbrev nm_Reading_next : List Str := ["self"]
theorem sc_Reading_next : FnScope nm_Reading_next ["self"] (defScope s_Reading_next) := ⟨rfl, rfl, rfl, by decide +kernel, rfl, by decide +kernel, by decide +kernel⟩
abbrev s_Reading_integer : Stmt := inClass (topS 21) 2
abbrev nm_Reading_integer : List Str := ["self", "sign", "value", "unit", "_"]
theorem sc_Reading_integer : FnScope nm_Reading_integer ["self", "sign"] (defScope s_Reading_integer) := ⟨rfl, rfl, rfl, by decide +kernel, rfl, by decide +kernel, by decide +kernel⟩
abbrev s_Reading_character : Stmt := inClass (topS 21) 3
abbrev nm_Reading_character : List Str := ["self", "number", "place"]
theorem sc_Reading_character : FnScope nm_Reading_character ["self"] (defScope s_Reading_character) := ⟨rfl, rfl, rfl, by decide +kernel, rfl, by decide +kernel, by decide +kernel⟩
abbrev s_Reading_characters : Stmt := inClass (topS 21) 4
abbrev nm_Reading_characters : List Str := ["self", "many", "_"]
theorem sc_Reading_characters : FnScope nm_Reading_characters ["self", "many"] (defScope s_Reading_characters) := ⟨rfl, rfl, rfl, by decide +kernel, rfl, by decide +kernel, by decide +kernel⟩
abbrev s_Reading_argument : Stmt := inClass (topS 21) 5
abbrev nm_Reading_argument : List Str := ["self", "kind", "first"]
theorem sc_Reading_argument : FnScope nm_Reading_argument ["self", "kind"] (defScope s_Reading_argument) := ⟨rfl, rfl, rfl, by decide +kernel, rfl, by decide +kernel, by decide +kernel⟩
abbrev s_read_entry : Stmt := topS 22
abbrev nm_read_entry : List Str := ["numbers", "reading", "number", "size", "name", "kinds", "arguments", "kind"]
theorem sc_read_entry : FnScope nm_read_entry ["numbers"] (defScope s_read_entry) := ⟨rfl, rfl, rfl, by decide +kernel, rfl, by decide +kernel, by decide +kernel⟩
abbrev s_read_journal : Stmt := topS 23
abbrev nm_read_journal : List Str := ["numbers", "found", "place", "behind", "name", "arguments"]
theorem sc_read_journal : FnScope nm_read_journal ["numbers"] (defScope s_read_journal) := ⟨rfl, rfl, rfl, by decide +kernel, rfl, by decide +kernel, by decide +kernel⟩
abbrev s__law_cell : Stmt := topS 25
abbrev nm__law_cell : List Str := ["_law_script", "_law_k"]
theorem sc__law_cell : FnScope nm__law_cell ["_law_script", "_law_k"] (defScope s__law_cell) := ⟨rfl, rfl, rfl, by decide +kernel, rfl, by decide +kernel, by decide +kernel⟩
abbrev s__law_digits : Stmt := topS 26
abbrev nm__law_digits : List Str := ["_law_script", "_law_first", "_law_last", "_law_digits_here", "_law_k", "_law_cell_here", "_law_place", "_law_seed"]
theorem sc__law_digits : FnScope nm__law_digits ["_law_script", "_law_first", "_law_last"] (defScope s__law_digits) := ⟨rfl, rfl, rfl, by decide +kernel, rfl, by decide +kernel, by decide +kernel⟩
abbrev s__law_draw : Stmt := topS 27
abbrev nm__law_draw : List Str := ["_law_box", "_law_many", "_law_at"]
theorem sc__law_draw : FnScope nm__law_draw ["_law_box", "_law_many"] (defScope s__law_draw) := ⟨rfl, rfl, rfl, by decide +kernel, rfl, by decide +kernel, by decide +kernel⟩
abbrev s__law_read : Stmt := topS 29
abbrev nm__law_read : List Str := ["_law_numbers", "e"]
theorem sc__law_read : FnScope nm__law_read ["_law_numbers"] (defScope s__law_read) := ⟨rfl, rfl, rfl, by decide +kernel, rfl, by decide +kernel, by decide +kernel⟩
abbrev s_law : Stmt := topS 30
abbrev nm_law : List Str := ["_law_script", "_law_box", "_law_start", "_law_numbers", "_law_right", "_law_k", "_law_wrong", "_law_place"]
theorem sc_law : FnScope nm_law ["_law_script"] (defScope s_law) := ⟨rfl, rfl, rfl, by decide +kernel, rfl, by decide +kernel, by decide +kernel⟩
/-- where the defs stand -/
structure Tops where
  a_BadJournal___init__ : Addr
  d_BadJournal___init__ : FuncData
  a_two_numbers : Addr
  d_two_numbers : FuncData
  a_write_integer : Addr
  d_write_integer : FuncData
  a_write_characters : Addr
  d_write_characters : FuncData
  a_write_argument : Addr
  d_write_argument : FuncData
  a_write_content : Addr
  d_write_content : FuncData
  a_write_entry : Addr
  d_write_entry : FuncData
  a_Reading___init__ : Addr
  d_Reading___init__ : FuncData
  a_Reading_next : Addr
  d_Reading_next : FuncData
  a_Reading_integer : Addr
  d_Reading_integer : FuncData
  a_Reading_character : Addr
  d_Reading_character : FuncData
  a_Reading_characters : Addr
  d_Reading_characters : FuncData
  a_Reading_argument : Addr
  d_Reading_argument : FuncData
  a_read_entry : Addr
  d_read_entry : FuncData
  a_read_journal : Addr
  d_read_journal : FuncData
  a__law_cell : Addr
  d__law_cell : FuncData
  a__law_digits : Addr
  d__law_digits : FuncData
  a__law_draw : Addr
  d__law_draw : FuncData
  a__law_read : Addr
  d__law_read : FuncData
  a_law : Addr
  d_law : FuncData
  c_read_entry : Addr
  c_read_journal : Addr
structure TopB (mg : Str → Option Value) (A : Ad) (W : Tops) (base : Heap) : Prop where
  tb_read_entry : GxR.TabB base mg W.c_read_entry (A.t 0)
  tb_read_journal : GxR.TabB base mg W.c_read_journal (A.t 1)
  ns : base.Ns mainGlobals mg
structure Top (P : Program) (K : PySem.W.Frag) (mg : Str → Option Value) (A : Ad) (W : Tops) (base : Heap) : Prop where
  F_BadJournal___init__ : FunS P K A.c_BadJournal "BadJournal.__init__" s_BadJournal___init__ W.a_BadJournal___init__ W.d_BadJournal___init__
  b_BadJournal___init__ : Binds K W.d_BadJournal___init__ ["self", "place"] []
  ox_BadJournal : OexC K A.c_BadJournal
  of_BadJournal : ∀ f ∈ (["place"] : List Str), PySem.W.findIn K (.ref A.c_BadJournal) f = some none
  oi_BadJournal : PySem.W.findIn K (.ref A.c_BadJournal) "__init__" = some (some (.ref W.a_BadJournal___init__))
  ot_BadJournal : PySem.W.typeIn K (.ref W.a_BadJournal___init__) = some (.type "function")
  F_two_numbers : Fun K "two_numbers" "two_numbers" s_two_numbers W.a_two_numbers W.d_two_numbers
  b_two_numbers : Binds K W.d_two_numbers ["number"] []
  m_two_numbers : mg "two_numbers" = some (.ref W.a_two_numbers)
  F_write_integer : Fun K "write_integer" "write_integer" s_write_integer W.a_write_integer W.d_write_integer
  b_write_integer : Binds K W.d_write_integer ["value"] []
  m_write_integer : mg "write_integer" = some (.ref W.a_write_integer)
  F_write_characters : Fun K "write_characters" "write_characters" s_write_characters W.a_write_characters W.d_write_characters
  b_write_characters : Binds K W.d_write_characters ["text"] []
  m_write_characters : mg "write_characters" = some (.ref W.a_write_characters)
  F_write_argument : Fun K "write_argument" "write_argument" s_write_argument W.a_write_argument W.d_write_argument
  b_write_argument : Binds K W.d_write_argument ["kind", "value"] []
  m_write_argument : mg "write_argument" = some (.ref W.a_write_argument)
  F_write_content : Fun K "write_content" "write_content" s_write_content W.a_write_content W.d_write_content
  b_write_content : Binds K W.d_write_content ["name", "arguments"] []
  m_write_content : mg "write_content" = some (.ref W.a_write_content)
  F_write_entry : Fun K "write_entry" "write_entry" s_write_entry W.a_write_entry W.d_write_entry
  b_write_entry : Binds K W.d_write_entry ["name", "arguments"] []
  m_write_entry : mg "write_entry" = some (.ref W.a_write_entry)
  F_Reading___init__ : Fun K "__init__" "Reading.__init__" s_Reading___init__ W.a_Reading___init__ W.d_Reading___init__
  b_Reading___init__ : Binds K W.d_Reading___init__ ["self", "numbers"] []
  M_Reading___init__ : Meth K A.c_Reading "__init__" W.a_Reading___init__
  F_Reading_next : Fun K "next" "Reading.next" s_Reading_next W.a_Reading_next W.d_Reading_next
  b_Reading_next : Binds K W.d_Reading_next ["self"] []
  M_Reading_next : Meth K A.c_Reading "next" W.a_Reading_next
  F_Reading_integer : Fun K "integer" "Reading.integer" s_Reading_integer W.a_Reading_integer W.d_Reading_integer
  b_Reading_integer : Binds K W.d_Reading_integer ["self", "sign"] []
  M_Reading_integer : Meth K A.c_Reading "integer" W.a_Reading_integer
  F_Reading_character : Fun K "character" "Reading.character" s_Reading_character W.a_Reading_character W.d_Reading_character
  b_Reading_character : Binds K W.d_Reading_character ["self"] []
  M_Reading_character : Meth K A.c_Reading "character" W.a_Reading_character
  F_Reading_characters : Fun K "characters" "Reading.characters" s_Reading_characters W.a_Reading_characters W.d_Reading_characters
  b_Reading_characters : Binds K W.d_Reading_characters ["self", "many"] []
  M_Reading_characters : Meth K A.c_Reading "characters" W.a_Reading_characters
  F_Reading_argument : Fun K "argument" "Reading.argument" s_Reading_argument W.a_Reading_argument W.d_Reading_argument
  b_Reading_argument : Binds K W.d_Reading_argument ["self", "kind"] []
  M_Reading_argument : Meth K A.c_Reading "argument" W.a_Reading_argument
  F_read_entry : FunC K "read_entry" "read_entry" s_read_entry W.a_read_entry W.d_read_entry W.c_read_entry (A.t 0)
  b_read_entry : Binds K W.d_read_entry ["numbers"] []
  m_read_entry : mg "read_entry" = some (.ref W.a_read_entry)
  F_read_journal : FunC K "read_journal" "read_journal" s_read_journal W.a_read_journal W.d_read_journal W.c_read_journal (A.t 1)
  b_read_journal : Binds K W.d_read_journal ["numbers"] []
  m_read_journal : mg "read_journal" = some (.ref W.a_read_journal)
  F__law_cell : Fun K "_law_cell" "_law_cell" s__law_cell W.a__law_cell W.d__law_cell
  b__law_cell : Binds K W.d__law_cell ["_law_script", "_law_k"] []
  m__law_cell : mg "_law_cell" = some (.ref W.a__law_cell)
  F__law_digits : Fun K "_law_digits" "_law_digits" s__law_digits W.a__law_digits W.d__law_digits
  b__law_digits : Binds K W.d__law_digits ["_law_script", "_law_first", "_law_last"] []
  m__law_digits : mg "_law_digits" = some (.ref W.a__law_digits)
  F__law_draw : Fun K "_law_draw" "_law_draw" s__law_draw W.a__law_draw W.d__law_draw
  b__law_draw : Binds K W.d__law_draw ["_law_box", "_law_many"] []
  m__law_draw : mg "_law_draw" = some (.ref W.a__law_draw)
  F__law_read : Fun K "_law_read" "_law_read" s__law_read W.a__law_read W.d__law_read
  b__law_read : Binds K W.d__law_read ["_law_numbers"] []
  m__law_read : mg "_law_read" = some (.ref W.a__law_read)
  F_law : Fun K "law" "law" s_law W.a_law W.d_law
  b_law : Binds K W.d_law ["_law_script"] []
  m_law : mg "law" = some (.ref W.a_law)
  cl_Reading : Cls K A.c_Reading
  K_Reading : Mk K A.c_Reading W.a_Reading___init__
  n_ValueError : mg "ValueError" = none
  n_abs : mg "abs" = none
  n_any : mg "any" = none
  n_enumerate : mg "enumerate" = none
  n_int : mg "int" = none
  n_isinstance : mg "isinstance" = none
  n_len : mg "len" = none
  n_list : mg "list" = none
  n_number : mg "number" = none
  n_ord : mg "ord" = none
  n_range : mg "range" = none
  n_super : mg "super" = none
  n_tuple : mg "tuple" = none
  m_BadJournal : mg "BadJournal" = some (.ref A.c_BadJournal)
  m_NoEntry : mg "NoEntry" = some (.ref A.c_NoEntry)
  m_Reading : mg "Reading" = some (.ref A.c_Reading)
  m_RecordError : mg "RecordError" = some (.ref A.c_RecordError)
  m_BYTE : ∃ t, mg "BYTE" = some (.int 256 t)
  m_FIRST_SIGN : ∃ t, mg "FIRST_SIGN" = some (.int 32 t)
  m_INTEGER_BYTES : ∃ t, mg "INTEGER_BYTES" = some (.int 4 t)
  m_LEFT_OUT : ∃ t, mg "LEFT_OUT" = some (.int 37 t)
  m_NEWLINE : ∃ t, mg "NEWLINE" = some (.int 10 t)
  m_NO_INTEGER : ∃ t, mg "NO_INTEGER" = some (.int 2 t)
  m_NO_TEXT : ∃ t, mg "NO_TEXT" = some (.int 255 t)
  m_SIGNS : ∃ t, mg "SIGNS" = some (.str " !\"#$&'()*+,-./0123456789:;<=>?@ABCDEFGHIJKLMNOPQRSTUVWXYZ[\\]^_`abcdefghijklmnopqrstuvwxyz{|}~" t)
  m_START : ∃ t, mg "START" = some (.str "start" t)
  x_NoEntry : PySem.W.excIn K A.c_NoEntry [.type "ValueError", .type "Exception", .type "BaseException", .type "object"] "ValueError.__new__" = true
  k_NoEntry : PySem.W.keepIn K (.ref A.c_NoEntry) = true
  bb_NoEntry : PySem.W.subIn K (.ref A.c_NoEntry) (.type "BaseException") = some true
  tt_NoEntry : PySem.W.typeIn K (.ref A.c_NoEntry) = some (.type "type")
  m_FORMS : mg "FORMS" = some (.ref (A.k 0))
  tb : TopB mg A W base
  xc : XC K A
section
variable {P : Program} {w : World} {K : PySem.W.Frag} {mg : Str → Option Value} {base : Heap} {A : Ad} {W : Tops}
theorem ok_BadJournal___init__ (T : Top P K mg A W base) : FnOk P w K mg base CX0 1 W.a_BadJournal___init__ W.d_BadJournal___init__ ["self", "place"] (spX K A.c_BadJournal ["place"]) := by
  refine okSup T.F_BadJournal___init__ sc_BadJournal___init__ T.n_super (fun vs H Q E h => by obtain ⟨a, ws, rfl, hl, _⟩ := h; exact congrArg (· + 1) hl) rfl rfl rfl rfl rfl rfl (fun A' outer s H vs Q E h c cc => ?_)
  obtain ⟨a, ws, rfl, hl, hv, O, hf, ha, k⟩ := h
  match ws, hl with
  | [v1], _ =>
    refine ⟨_, _, pa_cons (pe_joined (.cons pe_str (.cons (pe_fmt (pn 1)) .nil))) pa_nil, (pss_one (ps_ost (pn 0) (pn 1))), a, O, rfl, ha, ?_⟩
    exact xb_A (by decide +kernel) (hv _ (by simp)) fun y => ⟨by show 1 ≤ 1000; decide, ha, xo_1 O (hf _ (by simp)) ha k⟩
theorem okH_BadJournal___init__ (T : Top P K mg A W base) : L2H.FnH P w K mg base CX0 1 W.a_BadJournal___init__ W.d_BadJournal___init__ ["self", "place"] (spX K A.c_BadJournal ["place"]) := by
  refine okSupH T.F_BadJournal___init__ sc_BadJournal___init__ T.n_super (fun vs H Q E h => by obtain ⟨a, ws, rfl, hl, _⟩ := h; exact congrArg (· + 1) hl) rfl rfl rfl rfl rfl rfl (fun A' outer s H vs Q E p h c cc => ?_)
  obtain ⟨a, ws, rfl, hl, hv, O, hf, ha, k⟩ := h
  match ws, hl with
  | [v1], _ =>
    refine ⟨_, _, pa_cons (pe_joined (.cons pe_str (.cons (pe_fmt (pn 1)) .nil))) pa_nil, (pss_one (ps_ost (pn 0) (pn 1))), a, O, rfl, ha, ?_⟩
    exact xb_A (by decide +kernel) (hv _ (by simp)) fun y => ⟨by show 1 ≤ 1000; decide, ha, xo_1 O (hf _ (by simp)) ha k⟩
theorem ok_two_numbers (T : Top P K mg A W base) : FnOk P w K mg base CX0 1 W.a_two_numbers W.d_two_numbers ["number"] (sp_two_numbers K A) := by
  refine T.F_two_numbers.ok sc_two_numbers (fun vs H Q E h => by first | (obtain ⟨rfl, _⟩ := h; rfl) | (obtain ⟨_, rfl, _⟩ := h; rfl) | (obtain ⟨_, _, rfl, _⟩ := h; rfl) | (obtain ⟨_, _, _, rfl, _⟩ := h; rfl) | (obtain ⟨_, _, _, _, rfl, _⟩ := h; rfl) | (obtain ⟨_, _, _, _, _, rfl, _⟩ := h; rfl) | (obtain ⟨_, _, _, _, _, _, rfl, _⟩ := h; rfl) | (obtain ⟨_, _, _, _, _, _, _, rfl, _⟩ := h; rfl) | (obtain ⟨_, _, _, _, _, _, _, _, rfl, _⟩ := h; rfl) | (obtain ⟨_, _, _, _, _, _, _, _, _, rfl, _⟩ := h; rfl) | (obtain ⟨_, _, _, _, _, _, _, _, _, _, rfl, _⟩ := h; rfl) | (obtain ⟨_, _, _, _, _, _, _, _, _, _, _, rfl, _⟩ := h; rfl) | (obtain ⟨_, _, _, _, _, _, _, _, _, _, _, _, rfl, _⟩ := h; rfl) | (obtain ⟨_, _, _, _, _, _, _, _, _, _, _, _, _, rfl, _⟩ := h; rfl) | (obtain ⟨_, _, _, _, _, _, _, _, _, _, _, _, _, _, rfl, _⟩ := h; rfl) | (obtain ⟨_, _, _, _, _, _, _, _, _, _, _, _, _, _, _, rfl, _⟩ := h; rfl) | (obtain ⟨_, _, _, _, _, _, _, _, _, _, _, _, _, _, _, _, rfl, _⟩ := h; rfl) | (obtain ⟨_, _, _, _, _, _, _, _, _, _, _, _, _, _, _, _, _, rfl, _⟩ := h; rfl) | (obtain ⟨_, _, _, _, _, _, _, _, _, _, _, _, _, _, _, _, _, _, rfl, _⟩ := h; rfl) | (obtain ⟨_, _, _, _, _, _, _, _, _, _, _, _, _, _, _, _, _, _, _, rfl, _⟩ := h; rfl) | (obtain ⟨_, _, _, _, _, _, _, _, _, _, _, _, _, _, _, _, _, _, _, _, rfl, _⟩ := h; rfl) | (obtain ⟨_, _, _, _, _, _, _, _, _, _, _, _, _, _, _, _, _, _, _, _, _, rfl, _⟩ := h; rfl) | (obtain ⟨_, _, _, _, _, _, _, _, _, _, _, _, _, _, _, _, _, _, _, _, _, _, rfl, _⟩ := h; rfl) | (obtain ⟨_, _, _, _, _, _, _, _, _, _, _, _, _, _, _, _, _, _, _, _, _, _, _, rfl, _⟩ := h; rfl) | (obtain ⟨_, _, _, _, _, _, _, _, _, _, _, _, _, _, _, _, _, _, _, _, _, _, _, _, rfl, _⟩ := h; rfl) | (obtain ⟨_, _, _, _, _, _, _, _, _, _, _, _, _, _, _, _, _, _, _, _, _, _, _, _, _, rfl, _⟩ := h; rfl) | (obtain ⟨_, _, _, _, _, _, _, _, _, _, _, _, _, _, _, _, _, _, _, _, _, _, _, _, _, _, rfl, _⟩ := h; rfl) | (obtain ⟨_, _, _, _, _, _, _, _, _, _, _, _, _, _, _, _, _, _, _, _, _, _, _, _, _, _, _, rfl, _⟩ := h; rfl) | (obtain ⟨_, _, _, _, _, _, _, _, _, _, _, _, _, _, _, _, _, _, _, _, _, _, _, _, _, _, _, _, rfl, _⟩ := h; rfl) | (obtain ⟨_, _, _, _, _, _, _, _, _, _, _, _, _, _, _, _, _, _, _, _, _, _, _, _, _, _, _, _, _, rfl, _⟩ := h; rfl) | (obtain ⟨_, _, _, _, _, _, _, _, _, _, _, _, _, _, _, _, _, _, _, _, _, _, _, _, _, _, _, _, _, _, rfl, _⟩ := h; rfl) | (obtain ⟨_, _, _, _, _, _, _, _, _, _, _, _, _, _, _, _, _, _, _, _, _, _, _, _, _, _, _, _, _, _, _, rfl, _⟩ := h; rfl)) (fun cdv A' outer s H vs Q E hr h => ⟨t_two_numbers K A, ?_, rd_two_numbers h⟩)
  unfold t_two_numbers
  exact (pss_one (ps_ret (pe_lst (pa_cons (pe_op o_mod (pn 0) (pe_glob (by rfl) T.m_BYTE.choose_spec ⟨_, rfl⟩)) (pa_cons (pe_op o_fdiv (pn 0) (pe_glob (by rfl) T.m_BYTE.choose_spec ⟨_, rfl⟩)) pa_nil)))))
theorem ok_write_integer (T : Top P K mg A W base) : FnOk P w K mg base CX0 1 W.a_write_integer W.d_write_integer ["value"] (sp_write_integer K A) := by
  refine T.F_write_integer.ok sc_write_integer (fun vs H Q E h => by first | (obtain ⟨rfl, _⟩ := h; rfl) | (obtain ⟨_, rfl, _⟩ := h; rfl) | (obtain ⟨_, _, rfl, _⟩ := h; rfl) | (obtain ⟨_, _, _, rfl, _⟩ := h; rfl) | (obtain ⟨_, _, _, _, rfl, _⟩ := h; rfl) | (obtain ⟨_, _, _, _, _, rfl, _⟩ := h; rfl) | (obtain ⟨_, _, _, _, _, _, rfl, _⟩ := h; rfl) | (obtain ⟨_, _, _, _, _, _, _, rfl, _⟩ := h; rfl) | (obtain ⟨_, _, _, _, _, _, _, _, rfl, _⟩ := h; rfl) | (obtain ⟨_, _, _, _, _, _, _, _, _, rfl, _⟩ := h; rfl) | (obtain ⟨_, _, _, _, _, _, _, _, _, _, rfl, _⟩ := h; rfl) | (obtain ⟨_, _, _, _, _, _, _, _, _, _, _, rfl, _⟩ := h; rfl) | (obtain ⟨_, _, _, _, _, _, _, _, _, _, _, _, rfl, _⟩ := h; rfl) | (obtain ⟨_, _, _, _, _, _, _, _, _, _, _, _, _, rfl, _⟩ := h; rfl) | (obtain ⟨_, _, _, _, _, _, _, _, _, _, _, _, _, _, rfl, _⟩ := h; rfl) | (obtain ⟨_, _, _, _, _, _, _, _, _, _, _, _, _, _, _, rfl, _⟩ := h; rfl) | (obtain ⟨_, _, _, _, _, _, _, _, _, _, _, _, _, _, _, _, rfl, _⟩ := h; rfl) | (obtain ⟨_, _, _, _, _, _, _, _, _, _, _, _, _, _, _, _, _, rfl, _⟩ := h; rfl) | (obtain ⟨_, _, _, _, _, _, _, _, _, _, _, _, _, _, _, _, _, _, rfl, _⟩ := h; rfl) | (obtain ⟨_, _, _, _, _, _, _, _, _, _, _, _, _, _, _, _, _, _, _, rfl, _⟩ := h; rfl) | (obtain ⟨_, _, _, _, _, _, _, _, _, _, _, _, _, _, _, _, _, _, _, _, rfl, _⟩ := h; rfl) | (obtain ⟨_, _, _, _, _, _, _, _, _, _, _, _, _, _, _, _, _, _, _, _, _, rfl, _⟩ := h; rfl) | (obtain ⟨_, _, _, _, _, _, _, _, _, _, _, _, _, _, _, _, _, _, _, _, _, _, rfl, _⟩ := h; rfl) | (obtain ⟨_, _, _, _, _, _, _, _, _, _, _, _, _, _, _, _, _, _, _, _, _, _, _, rfl, _⟩ := h; rfl) | (obtain ⟨_, _, _, _, _, _, _, _, _, _, _, _, _, _, _, _, _, _, _, _, _, _, _, _, rfl, _⟩ := h; rfl) | (obtain ⟨_, _, _, _, _, _, _, _, _, _, _, _, _, _, _, _, _, _, _, _, _, _, _, _, _, rfl, _⟩ := h; rfl) | (obtain ⟨_, _, _, _, _, _, _, _, _, _, _, _, _, _, _, _, _, _, _, _, _, _, _, _, _, _, rfl, _⟩ := h; rfl) | (obtain ⟨_, _, _, _, _, _, _, _, _, _, _, _, _, _, _, _, _, _, _, _, _, _, _, _, _, _, _, rfl, _⟩ := h; rfl) | (obtain ⟨_, _, _, _, _, _, _, _, _, _, _, _, _, _, _, _, _, _, _, _, _, _, _, _, _, _, _, _, rfl, _⟩ := h; rfl) | (obtain ⟨_, _, _, _, _, _, _, _, _, _, _, _, _, _, _, _, _, _, _, _, _, _, _, _, _, _, _, _, _, rfl, _⟩ := h; rfl) | (obtain ⟨_, _, _, _, _, _, _, _, _, _, _, _, _, _, _, _, _, _, _, _, _, _, _, _, _, _, _, _, _, _, rfl, _⟩ := h; rfl) | (obtain ⟨_, _, _, _, _, _, _, _, _, _, _, _, _, _, _, _, _, _, _, _, _, _, _, _, _, _, _, _, _, _, _, rfl, _⟩ := h; rfl)) (fun cdv A' outer s H vs Q E hr h => ⟨t_write_integer K A, ?_, rd_write_integer h⟩)
  unfold t_write_integer
  exact (pss_cons (ps_set (i := 1) sc_write_integer.nd rfl (Or.inl rfl) (pe_lst (pa_cons (p_ifE (m_test (pt_cmpR o_lt (pn 0) pe_int (nomark _))) pe_int pe_int) pa_nil)))
  (pss_cons (ps_set (i := 2) sc_write_integer.nd rfl (Or.inl rfl) (pe_callB c_abs (by rfl) T.n_abs (by decide +kernel) (pa_cons (pn 0) pa_nil)))
  (pss_cons (ps_for PassesOwn.never rfl (i_rng1 (pi_range1 (by rfl) T.n_range (pa_cons (pe_glob (by rfl) T.m_INTEGER_BYTES.choose_spec ⟨_, rfl⟩) pa_nil))) (pg_name (i := 3) sc_write_integer.nd rfl (Or.inl rfl))
    (pss_cons (ps_expr (pe_bm PySem.F.plainAttrs_list PySem.F.slot_list_append PySem.F.type_list_append mt_append (pn 1) (pa_cons (pe_op o_mod (pn 2) (pe_glob (by rfl) T.m_BYTE.choose_spec ⟨_, rfl⟩)) pa_nil)))
  (pss_one (ps_set (i := 2) sc_write_integer.nd rfl (Or.inl rfl) (pe_op o_fdiv (pn 2) (pe_glob (by rfl) T.m_BYTE.choose_spec ⟨_, rfl⟩))))))
  (pss_one (ps_ret (pn 1))))))
theorem ok_write_characters (T : Top P K mg A W base) : FnOk P w K mg base CX0 1 W.a_write_characters W.d_write_characters ["text"] (sp_write_characters K A) := by
  refine T.F_write_characters.ok sc_write_characters (fun vs H Q E h => by first | (obtain ⟨rfl, _⟩ := h; rfl) | (obtain ⟨_, rfl, _⟩ := h; rfl) | (obtain ⟨_, _, rfl, _⟩ := h; rfl) | (obtain ⟨_, _, _, rfl, _⟩ := h; rfl) | (obtain ⟨_, _, _, _, rfl, _⟩ := h; rfl) | (obtain ⟨_, _, _, _, _, rfl, _⟩ := h; rfl) | (obtain ⟨_, _, _, _, _, _, rfl, _⟩ := h; rfl) | (obtain ⟨_, _, _, _, _, _, _, rfl, _⟩ := h; rfl) | (obtain ⟨_, _, _, _, _, _, _, _, rfl, _⟩ := h; rfl) | (obtain ⟨_, _, _, _, _, _, _, _, _, rfl, _⟩ := h; rfl) | (obtain ⟨_, _, _, _, _, _, _, _, _, _, rfl, _⟩ := h; rfl) | (obtain ⟨_, _, _, _, _, _, _, _, _, _, _, rfl, _⟩ := h; rfl) | (obtain ⟨_, _, _, _, _, _, _, _, _, _, _, _, rfl, _⟩ := h; rfl) | (obtain ⟨_, _, _, _, _, _, _, _, _, _, _, _, _, rfl, _⟩ := h; rfl) | (obtain ⟨_, _, _, _, _, _, _, _, _, _, _, _, _, _, rfl, _⟩ := h; rfl) | (obtain ⟨_, _, _, _, _, _, _, _, _, _, _, _, _, _, _, rfl, _⟩ := h; rfl) | (obtain ⟨_, _, _, _, _, _, _, _, _, _, _, _, _, _, _, _, rfl, _⟩ := h; rfl) | (obtain ⟨_, _, _, _, _, _, _, _, _, _, _, _, _, _, _, _, _, rfl, _⟩ := h; rfl) | (obtain ⟨_, _, _, _, _, _, _, _, _, _, _, _, _, _, _, _, _, _, rfl, _⟩ := h; rfl) | (obtain ⟨_, _, _, _, _, _, _, _, _, _, _, _, _, _, _, _, _, _, _, rfl, _⟩ := h; rfl) | (obtain ⟨_, _, _, _, _, _, _, _, _, _, _, _, _, _, _, _, _, _, _, _, rfl, _⟩ := h; rfl) | (obtain ⟨_, _, _, _, _, _, _, _, _, _, _, _, _, _, _, _, _, _, _, _, _, rfl, _⟩ := h; rfl) | (obtain ⟨_, _, _, _, _, _, _, _, _, _, _, _, _, _, _, _, _, _, _, _, _, _, rfl, _⟩ := h; rfl) | (obtain ⟨_, _, _, _, _, _, _, _, _, _, _, _, _, _, _, _, _, _, _, _, _, _, _, rfl, _⟩ := h; rfl) | (obtain ⟨_, _, _, _, _, _, _, _, _, _, _, _, _, _, _, _, _, _, _, _, _, _, _, _, rfl, _⟩ := h; rfl) | (obtain ⟨_, _, _, _, _, _, _, _, _, _, _, _, _, _, _, _, _, _, _, _, _, _, _, _, _, rfl, _⟩ := h; rfl) | (obtain ⟨_, _, _, _, _, _, _, _, _, _, _, _, _, _, _, _, _, _, _, _, _, _, _, _, _, _, rfl, _⟩ := h; rfl) | (obtain ⟨_, _, _, _, _, _, _, _, _, _, _, _, _, _, _, _, _, _, _, _, _, _, _, _, _, _, _, rfl, _⟩ := h; rfl) | (obtain ⟨_, _, _, _, _, _, _, _, _, _, _, _, _, _, _, _, _, _, _, _, _, _, _, _, _, _, _, _, rfl, _⟩ := h; rfl) | (obtain ⟨_, _, _, _, _, _, _, _, _, _, _, _, _, _, _, _, _, _, _, _, _, _, _, _, _, _, _, _, _, rfl, _⟩ := h; rfl) | (obtain ⟨_, _, _, _, _, _, _, _, _, _, _, _, _, _, _, _, _, _, _, _, _, _, _, _, _, _, _, _, _, _, rfl, _⟩ := h; rfl) | (obtain ⟨_, _, _, _, _, _, _, _, _, _, _, _, _, _, _, _, _, _, _, _, _, _, _, _, _, _, _, _, _, _, _, rfl, _⟩ := h; rfl)) (fun cdv A' outer s H vs Q E hr h => ⟨t_write_characters K A, ?_, rd_write_characters h⟩)
  unfold t_write_characters
  exact (pss_one (ps_ret (pe_lc (own := [("sign", 1)]) (g := (gName 1)) (tt := tYes) rfl sc_write_characters.nd (i_str (pi_str (pn 0))) (blkOk_by (own := [("sign", 1)]) (N := nm_write_characters) (sc := defScope s_write_characters) (by decide +kernel)) (fun _ _ _ _ _ => (pg_name (i := 1) sc_write_characters.nd rfl (Or.inl rfl))) (fun _ _ _ _ _ => pts_nil) (fun _ _ _ _ _ => (pe_callB c_ord (by rfl) T.n_ord (by decide +kernel) (pa_cons (pn 1) pa_nil))))))
theorem ok_write_argument (T : Top P K mg A W base) : FnOk P w K mg base CX0 2 W.a_write_argument W.d_write_argument ["kind", "value"] (sp_write_argument K A) := by
  refine T.F_write_argument.ok sc_write_argument (fun vs H Q E h => by first | (obtain ⟨rfl, _⟩ := h; rfl) | (obtain ⟨_, rfl, _⟩ := h; rfl) | (obtain ⟨_, _, rfl, _⟩ := h; rfl) | (obtain ⟨_, _, _, rfl, _⟩ := h; rfl) | (obtain ⟨_, _, _, _, rfl, _⟩ := h; rfl) | (obtain ⟨_, _, _, _, _, rfl, _⟩ := h; rfl) | (obtain ⟨_, _, _, _, _, _, rfl, _⟩ := h; rfl) | (obtain ⟨_, _, _, _, _, _, _, rfl, _⟩ := h; rfl) | (obtain ⟨_, _, _, _, _, _, _, _, rfl, _⟩ := h; rfl) | (obtain ⟨_, _, _, _, _, _, _, _, _, rfl, _⟩ := h; rfl) | (obtain ⟨_, _, _, _, _, _, _, _, _, _, rfl, _⟩ := h; rfl) | (obtain ⟨_, _, _, _, _, _, _, _, _, _, _, rfl, _⟩ := h; rfl) | (obtain ⟨_, _, _, _, _, _, _, _, _, _, _, _, rfl, _⟩ := h; rfl) | (obtain ⟨_, _, _, _, _, _, _, _, _, _, _, _, _, rfl, _⟩ := h; rfl) | (obtain ⟨_, _, _, _, _, _, _, _, _, _, _, _, _, _, rfl, _⟩ := h; rfl) | (obtain ⟨_, _, _, _, _, _, _, _, _, _, _, _, _, _, _, rfl, _⟩ := h; rfl) | (obtain ⟨_, _, _, _, _, _, _, _, _, _, _, _, _, _, _, _, rfl, _⟩ := h; rfl) | (obtain ⟨_, _, _, _, _, _, _, _, _, _, _, _, _, _, _, _, _, rfl, _⟩ := h; rfl) | (obtain ⟨_, _, _, _, _, _, _, _, _, _, _, _, _, _, _, _, _, _, rfl, _⟩ := h; rfl) | (obtain ⟨_, _, _, _, _, _, _, _, _, _, _, _, _, _, _, _, _, _, _, rfl, _⟩ := h; rfl) | (obtain ⟨_, _, _, _, _, _, _, _, _, _, _, _, _, _, _, _, _, _, _, _, rfl, _⟩ := h; rfl) | (obtain ⟨_, _, _, _, _, _, _, _, _, _, _, _, _, _, _, _, _, _, _, _, _, rfl, _⟩ := h; rfl) | (obtain ⟨_, _, _, _, _, _, _, _, _, _, _, _, _, _, _, _, _, _, _, _, _, _, rfl, _⟩ := h; rfl) | (obtain ⟨_, _, _, _, _, _, _, _, _, _, _, _, _, _, _, _, _, _, _, _, _, _, _, rfl, _⟩ := h; rfl) | (obtain ⟨_, _, _, _, _, _, _, _, _, _, _, _, _, _, _, _, _, _, _, _, _, _, _, _, rfl, _⟩ := h; rfl) | (obtain ⟨_, _, _, _, _, _, _, _, _, _, _, _, _, _, _, _, _, _, _, _, _, _, _, _, _, rfl, _⟩ := h; rfl) | (obtain ⟨_, _, _, _, _, _, _, _, _, _, _, _, _, _, _, _, _, _, _, _, _, _, _, _, _, _, rfl, _⟩ := h; rfl) | (obtain ⟨_, _, _, _, _, _, _, _, _, _, _, _, _, _, _, _, _, _, _, _, _, _, _, _, _, _, _, rfl, _⟩ := h; rfl) | (obtain ⟨_, _, _, _, _, _, _, _, _, _, _, _, _, _, _, _, _, _, _, _, _, _, _, _, _, _, _, _, rfl, _⟩ := h; rfl) | (obtain ⟨_, _, _, _, _, _, _, _, _, _, _, _, _, _, _, _, _, _, _, _, _, _, _, _, _, _, _, _, _, rfl, _⟩ := h; rfl) | (obtain ⟨_, _, _, _, _, _, _, _, _, _, _, _, _, _, _, _, _, _, _, _, _, _, _, _, _, _, _, _, _, _, rfl, _⟩ := h; rfl) | (obtain ⟨_, _, _, _, _, _, _, _, _, _, _, _, _, _, _, _, _, _, _, _, _, _, _, _, _, _, _, _, _, _, _, rfl, _⟩ := h; rfl)) (fun cdv A' outer s H vs Q E hr h => ⟨t_write_argument K A, ?_, rd_write_argument h⟩)
  unfold t_write_argument
  exact (pss_cons (p_if (m_test (pt_cmpR (o_eq hr.units) (pn 0) pe_str (nomark _)))
    (pss_one (ps_ret (pe_lst (pa_cons (p_ifE (p_truth (pn 1) (by intro _; rfl)) pe_int pe_int) pa_nil))))
    pss_nil)
  (pss_cons (p_if (m_test (pt_cmpR o_inS (pn 0) pe_str rfl))
    (pss_one (ps_ret (p_ifE (m_test (pt_cmpR o_isN (pn 1) pe_non (nomark _))) (pe_lst (pa_cons (pe_glob (by rfl) T.m_NO_INTEGER.choose_spec ⟨_, rfl⟩) pa_nil)) (pe_call (ok_write_integer T) (hr.mono (by decide)) (by rfl) T.m_write_integer T.F_write_integer.kp T.b_write_integer .nil pass0 (pa_cons (pn 1) pa_nil)))))
    pss_nil)
  (pss_one (ps_ret (p_ifE (m_test (pt_cmpR o_isN (pn 1) pe_non (nomark _))) (pe_lst (pa_cons (pe_glob (by rfl) T.m_NO_TEXT.choose_spec ⟨_, rfl⟩) pa_nil)) (pe_op o_add (pe_lst (pa_cons (pe_callB c_len (by rfl) T.n_len (by decide +kernel) (pa_cons (pn 1) pa_nil)) pa_nil)) (pe_call (ok_write_characters T) (hr.mono (by decide)) (by rfl) T.m_write_characters T.F_write_characters.kp T.b_write_characters .nil pass0 (pa_cons (pn 1) pa_nil))))))))
theorem ok_write_content (T : Top P K mg A W base) : FnOk P w K mg base CX0 3 W.a_write_content W.d_write_content ["name", "arguments"] (sp_write_content K A) := by
  refine T.F_write_content.ok sc_write_content (fun vs H Q E h => by first | (obtain ⟨rfl, _⟩ := h; rfl) | (obtain ⟨_, rfl, _⟩ := h; rfl) | (obtain ⟨_, _, rfl, _⟩ := h; rfl) | (obtain ⟨_, _, _, rfl, _⟩ := h; rfl) | (obtain ⟨_, _, _, _, rfl, _⟩ := h; rfl) | (obtain ⟨_, _, _, _, _, rfl, _⟩ := h; rfl) | (obtain ⟨_, _, _, _, _, _, rfl, _⟩ := h; rfl) | (obtain ⟨_, _, _, _, _, _, _, rfl, _⟩ := h; rfl) | (obtain ⟨_, _, _, _, _, _, _, _, rfl, _⟩ := h; rfl) | (obtain ⟨_, _, _, _, _, _, _, _, _, rfl, _⟩ := h; rfl) | (obtain ⟨_, _, _, _, _, _, _, _, _, _, rfl, _⟩ := h; rfl) | (obtain ⟨_, _, _, _, _, _, _, _, _, _, _, rfl, _⟩ := h; rfl) | (obtain ⟨_, _, _, _, _, _, _, _, _, _, _, _, rfl, _⟩ := h; rfl) | (obtain ⟨_, _, _, _, _, _, _, _, _, _, _, _, _, rfl, _⟩ := h; rfl) | (obtain ⟨_, _, _, _, _, _, _, _, _, _, _, _, _, _, rfl, _⟩ := h; rfl) | (obtain ⟨_, _, _, _, _, _, _, _, _, _, _, _, _, _, _, rfl, _⟩ := h; rfl) | (obtain ⟨_, _, _, _, _, _, _, _, _, _, _, _, _, _, _, _, rfl, _⟩ := h; rfl) | (obtain ⟨_, _, _, _, _, _, _, _, _, _, _, _, _, _, _, _, _, rfl, _⟩ := h; rfl) | (obtain ⟨_, _, _, _, _, _, _, _, _, _, _, _, _, _, _, _, _, _, rfl, _⟩ := h; rfl) | (obtain ⟨_, _, _, _, _, _, _, _, _, _, _, _, _, _, _, _, _, _, _, rfl, _⟩ := h; rfl) | (obtain ⟨_, _, _, _, _, _, _, _, _, _, _, _, _, _, _, _, _, _, _, _, rfl, _⟩ := h; rfl) | (obtain ⟨_, _, _, _, _, _, _, _, _, _, _, _, _, _, _, _, _, _, _, _, _, rfl, _⟩ := h; rfl) | (obtain ⟨_, _, _, _, _, _, _, _, _, _, _, _, _, _, _, _, _, _, _, _, _, _, rfl, _⟩ := h; rfl) | (obtain ⟨_, _, _, _, _, _, _, _, _, _, _, _, _, _, _, _, _, _, _, _, _, _, _, rfl, _⟩ := h; rfl) | (obtain ⟨_, _, _, _, _, _, _, _, _, _, _, _, _, _, _, _, _, _, _, _, _, _, _, _, rfl, _⟩ := h; rfl) | (obtain ⟨_, _, _, _, _, _, _, _, _, _, _, _, _, _, _, _, _, _, _, _, _, _, _, _, _, rfl, _⟩ := h; rfl) | (obtain ⟨_, _, _, _, _, _, _, _, _, _, _, _, _, _, _, _, _, _, _, _, _, _, _, _, _, _, rfl, _⟩ := h; rfl) | (obtain ⟨_, _, _, _, _, _, _, _, _, _, _, _, _, _, _, _, _, _, _, _, _, _, _, _, _, _, _, rfl, _⟩ := h; rfl) | (obtain ⟨_, _, _, _, _, _, _, _, _, _, _, _, _, _, _, _, _, _, _, _, _, _, _, _, _, _, _, _, rfl, _⟩ := h; rfl) | (obtain ⟨_, _, _, _, _, _, _, _, _, _, _, _, _, _, _, _, _, _, _, _, _, _, _, _, _, _, _, _, _, rfl, _⟩ := h; rfl) | (obtain ⟨_, _, _, _, _, _, _, _, _, _, _, _, _, _, _, _, _, _, _, _, _, _, _, _, _, _, _, _, _, _, rfl, _⟩ := h; rfl) | (obtain ⟨_, _, _, _, _, _, _, _, _, _, _, _, _, _, _, _, _, _, _, _, _, _, _, _, _, _, _, _, _, _, _, rfl, _⟩ := h; rfl)) (fun cdv A' outer s H vs Q E hr h => ⟨t_write_content K A, ?_, rd_write_content T.xc h⟩)
  unfold t_write_content
  exact (pss_cons (p_if (m_test (pt_cmpR (o_eq hr.units) (pn 0) (pe_glob (by rfl) T.m_START.choose_spec ⟨_, rfl⟩) (nomark _)))
    (pss_one (ps_ret (pe_op o_add (pe_op o_add (pe_lst (pa_cons pe_int pa_nil)) (pe_call (ok_two_numbers T) (hr.mono (by decide)) (by rfl) T.m_two_numbers T.F_two_numbers.kp T.b_two_numbers .nil pass0 (pa_cons (pe_ix ix_seq (pn 1) pe_int (fun _ _ => rfl)) pa_nil))) (pe_call (ok_write_characters T) (hr.mono (by decide)) (by rfl) T.m_write_characters T.F_write_characters.kp T.b_write_characters .nil pass0 (pa_cons (pe_ix ix_seq (pn 1) pe_int (fun _ _ => rfl)) pa_nil)))))
    pss_nil)
  (pss_cons (ps_setLc (i := 2) (own := [("row", 7)]) (g := (gName 7)) (tt := tYes) rfl sc_write_content.nd rfl rfl (sw_true rfl rfl rfl (by decide +kernel)) (i_tup (pi_tup (pe_glob (by rfl) T.m_FORMS rfl))) (blkOk_by (own := [("row", 7)]) (N := nm_write_content) (sc := defScope s_write_content) (by decide +kernel)) (fun _ _ _ _ _ => (pg_name (i := 7) sc_write_content.nd rfl (Or.inl rfl))) (fun _ _ _ _ _ => pts_nil) (fun _ _ _ _ _ => (pe_ix ix_seq (pn 7) pe_int (fun _ _ => rfl))))
  (pss_cons (ps_set (i := 3) sc_write_content.nd rfl (Or.inl rfl) (pe_bm PySem.F.plainAttrs_list PySem.F.slot_list_index PySem.F.type_list_index mt_index (pn 2) (pa_cons (pn 0) pa_nil)))
  (pss_cons (ps_set (i := 4) sc_write_content.nd rfl (Or.inl rfl) (pe_lst (pa_cons (pe_op o_add (pn 3) pe_int) pa_nil)))
  (pss_cons (ps_for PassesOwn.never rfl (pi_enumS (by rfl) T.n_enumerate (pa_cons (pe_ix ix_seq (pe_ix ix_seq (pe_glob (by rfl) T.m_FORMS rfl) (pn 3) (fun _ _ => rfl)) pe_int (fun _ _ => rfl)) pa_nil)) (pg_tup rfl (p_gcons (pg_name (i := 5) sc_write_content.nd rfl (Or.inl rfl)) (p_gcons (pg_name (i := 6) sc_write_content.nd rfl (Or.inl rfl)) p_gnil)))
    (pss_one (ps_expr (pe_bm PySem.F.plainAttrs_list PySem.F.slot_list_extend PySem.F.type_list_extend mt_extend (pn 4) (pa_cons (pe_call (ok_write_argument T) (hr.mono (by decide)) (by rfl) T.m_write_argument T.F_write_argument.kp T.b_write_argument .nil pass0 (pa_cons (pn 6) (pa_cons (pe_ix ix_seq (pn 1) (pn 5) (fun _ _ => rfl)) pa_nil))) pa_nil)))))
  (pss_one (ps_ret (pn 4))))))))
theorem ok_write_entry (T : Top P K mg A W base) : FnOk P w K mg base CX0 4 W.a_write_entry W.d_write_entry ["name", "arguments"] (sp_write_entry K A) := by
  refine T.F_write_entry.ok sc_write_entry (fun vs H Q E h => by first | (obtain ⟨rfl, _⟩ := h; rfl) | (obtain ⟨_, rfl, _⟩ := h; rfl) | (obtain ⟨_, _, rfl, _⟩ := h; rfl) | (obtain ⟨_, _, _, rfl, _⟩ := h; rfl) | (obtain ⟨_, _, _, _, rfl, _⟩ := h; rfl) | (obtain ⟨_, _, _, _, _, rfl, _⟩ := h; rfl) | (obtain ⟨_, _, _, _, _, _, rfl, _⟩ := h; rfl) | (obtain ⟨_, _, _, _, _, _, _, rfl, _⟩ := h; rfl) | (obtain ⟨_, _, _, _, _, _, _, _, rfl, _⟩ := h; rfl) | (obtain ⟨_, _, _, _, _, _, _, _, _, rfl, _⟩ := h; rfl) | (obtain ⟨_, _, _, _, _, _, _, _, _, _, rfl, _⟩ := h; rfl) | (obtain ⟨_, _, _, _, _, _, _, _, _, _, _, rfl, _⟩ := h; rfl) | (obtain ⟨_, _, _, _, _, _, _, _, _, _, _, _, rfl, _⟩ := h; rfl) | (obtain ⟨_, _, _, _, _, _, _, _, _, _, _, _, _, rfl, _⟩ := h; rfl) | (obtain ⟨_, _, _, _, _, _, _, _, _, _, _, _, _, _, rfl, _⟩ := h; rfl) | (obtain ⟨_, _, _, _, _, _, _, _, _, _, _, _, _, _, _, rfl, _⟩ := h; rfl) | (obtain ⟨_, _, _, _, _, _, _, _, _, _, _, _, _, _, _, _, rfl, _⟩ := h; rfl) | (obtain ⟨_, _, _, _, _, _, _, _, _, _, _, _, _, _, _, _, _, rfl, _⟩ := h; rfl) | (obtain ⟨_, _, _, _, _, _, _, _, _, _, _, _, _, _, _, _, _, _, rfl, _⟩ := h; rfl) | (obtain ⟨_, _, _, _, _, _, _, _, _, _, _, _, _, _, _, _, _, _, _, rfl, _⟩ := h; rfl) | (obtain ⟨_, _, _, _, _, _, _, _, _, _, _, _, _, _, _, _, _, _, _, _, rfl, _⟩ := h; rfl) | (obtain ⟨_, _, _, _, _, _, _, _, _, _, _, _, _, _, _, _, _, _, _, _, _, rfl, _⟩ := h; rfl) | (obtain ⟨_, _, _, _, _, _, _, _, _, _, _, _, _, _, _, _, _, _, _, _, _, _, rfl, _⟩ := h; rfl) | (obtain ⟨_, _, _, _, _, _, _, _, _, _, _, _, _, _, _, _, _, _, _, _, _, _, _, rfl, _⟩ := h; rfl) | (obtain ⟨_, _, _, _, _, _, _, _, _, _, _, _, _, _, _, _, _, _, _, _, _, _, _, _, rfl, _⟩ := h; rfl) | (obtain ⟨_, _, _, _, _, _, _, _, _, _, _, _, _, _, _, _, _, _, _, _, _, _, _, _, _, rfl, _⟩ := h; rfl) | (obtain ⟨_, _, _, _, _, _, _, _, _, _, _, _, _, _, _, _, _, _, _, _, _, _, _, _, _, _, rfl, _⟩ := h; rfl) | (obtain ⟨_, _, _, _, _, _, _, _, _, _, _, _, _, _, _, _, _, _, _, _, _, _, _, _, _, _, _, rfl, _⟩ := h; rfl) | (obtain ⟨_, _, _, _, _, _, _, _, _, _, _, _, _, _, _, _, _, _, _, _, _, _, _, _, _, _, _, _, rfl, _⟩ := h; rfl) | (obtain ⟨_, _, _, _, _, _, _, _, _, _, _, _, _, _, _, _, _, _, _, _, _, _, _, _, _, _, _, _, _, rfl, _⟩ := h; rfl) | (obtain ⟨_, _, _, _, _, _, _, _, _, _, _, _, _, _, _, _, _, _, _, _, _, _, _, _, _, _, _, _, _, _, rfl, _⟩ := h; rfl) | (obtain ⟨_, _, _, _, _, _, _, _, _, _, _, _, _, _, _, _, _, _, _, _, _, _, _, _, _, _, _, _, _, _, _, rfl, _⟩ := h; rfl)) (fun cdv A' outer s H vs Q E hr h => ⟨t_write_entry K A, ?_, rd_write_entry h⟩)
  unfold t_write_entry
  exact (pss_cons (ps_set (i := 2) sc_write_entry.nd rfl (Or.inl rfl) (pe_call (ok_write_content T) (hr.mono (by decide)) (by rfl) T.m_write_content T.F_write_content.kp T.b_write_content .nil pass0 (pa_cons (pn 0) (pa_cons (pn 1) pa_nil))))
  (pss_one (ps_ret (pe_op o_add (pe_call (ok_two_numbers T) (hr.mono (by decide)) (by rfl) T.m_two_numbers T.F_two_numbers.kp T.b_two_numbers .nil pass0 (pa_cons (pe_callB c_len (by rfl) T.n_len (by decide +kernel) (pa_cons (pn 2) pa_nil)) pa_nil)) (pn 2)))))
theorem ok_Reading___init__ (T : Top P K mg A W base) : FnOk P w K mg base CX0 1 W.a_Reading___init__ W.d_Reading___init__ ["self", "numbers"] (sp_Reading___init__ K A) := by
  refine T.F_Reading___init__.ok sc_Reading___init__ (fun vs H Q E h => by first | (obtain ⟨rfl, _⟩ := h; rfl) | (obtain ⟨_, rfl, _⟩ := h; rfl) | (obtain ⟨_, _, rfl, _⟩ := h; rfl) | (obtain ⟨_, _, _, rfl, _⟩ := h; rfl) | (obtain ⟨_, _, _, _, rfl, _⟩ := h; rfl) | (obtain ⟨_, _, _, _, _, rfl, _⟩ := h; rfl) | (obtain ⟨_, _, _, _, _, _, rfl, _⟩ := h; rfl) | (obtain ⟨_, _, _, _, _, _, _, rfl, _⟩ := h; rfl) | (obtain ⟨_, _, _, _, _, _, _, _, rfl, _⟩ := h; rfl) | (obtain ⟨_, _, _, _, _, _, _, _, _, rfl, _⟩ := h; rfl) | (obtain ⟨_, _, _, _, _, _, _, _, _, _, rfl, _⟩ := h; rfl) | (obtain ⟨_, _, _, _, _, _, _, _, _, _, _, rfl, _⟩ := h; rfl) | (obtain ⟨_, _, _, _, _, _, _, _, _, _, _, _, rfl, _⟩ := h; rfl) | (obtain ⟨_, _, _, _, _, _, _, _, _, _, _, _, _, rfl, _⟩ := h; rfl) | (obtain ⟨_, _, _, _, _, _, _, _, _, _, _, _, _, _, rfl, _⟩ := h; rfl) | (obtain ⟨_, _, _, _, _, _, _, _, _, _, _, _, _, _, _, rfl, _⟩ := h; rfl) | (obtain ⟨_, _, _, _, _, _, _, _, _, _, _, _, _, _, _, _, rfl, _⟩ := h; rfl) | (obtain ⟨_, _, _, _, _, _, _, _, _, _, _, _, _, _, _, _, _, rfl, _⟩ := h; rfl) | (obtain ⟨_, _, _, _, _, _, _, _, _, _, _, _, _, _, _, _, _, _, rfl, _⟩ := h; rfl) | (obtain ⟨_, _, _, _, _, _, _, _, _, _, _, _, _, _, _, _, _, _, _, rfl, _⟩ := h; rfl) | (obtain ⟨_, _, _, _, _, _, _, _, _, _, _, _, _, _, _, _, _, _, _, _, rfl, _⟩ := h; rfl) | (obtain ⟨_, _, _, _, _, _, _, _, _, _, _, _, _, _, _, _, _, _, _, _, _, rfl, _⟩ := h; rfl) | (obtain ⟨_, _, _, _, _, _, _, _, _, _, _, _, _, _, _, _, _, _, _, _, _, _, rfl, _⟩ := h; rfl) | (obtain ⟨_, _, _, _, _, _, _, _, _, _, _, _, _, _, _, _, _, _, _, _, _, _, _, rfl, _⟩ := h; rfl) | (obtain ⟨_, _, _, _, _, _, _, _, _, _, _, _, _, _, _, _, _, _, _, _, _, _, _, _, rfl, _⟩ := h; rfl) | (obtain ⟨_, _, _, _, _, _, _, _, _, _, _, _, _, _, _, _, _, _, _, _, _, _, _, _, _, rfl, _⟩ := h; rfl) | (obtain ⟨_, _, _, _, _, _, _, _, _, _, _, _, _, _, _, _, _, _, _, _, _, _, _, _, _, _, rfl, _⟩ := h; rfl) | (obtain ⟨_, _, _, _, _, _, _, _, _, _, _, _, _, _, _, _, _, _, _, _, _, _, _, _, _, _, _, rfl, _⟩ := h; rfl) | (obtain ⟨_, _, _, _, _, _, _, _, _, _, _, _, _, _, _, _, _, _, _, _, _, _, _, _, _, _, _, _, rfl, _⟩ := h; rfl) | (obtain ⟨_, _, _, _, _, _, _, _, _, _, _, _, _, _, _, _, _, _, _, _, _, _, _, _, _, _, _, _, _, rfl, _⟩ := h; rfl) | (obtain ⟨_, _, _, _, _, _, _, _, _, _, _, _, _, _, _, _, _, _, _, _, _, _, _, _, _, _, _, _, _, _, rfl, _⟩ := h; rfl) | (obtain ⟨_, _, _, _, _, _, _, _, _, _, _, _, _, _, _, _, _, _, _, _, _, _, _, _, _, _, _, _, _, _, _, rfl, _⟩ := h; rfl)) (fun cdv A' outer s H vs Q E hr h => ⟨t_Reading___init__ K A, ?_, rd_Reading___init__ T.xc h⟩)
  unfold t_Reading___init__
  exact (pss_cons (ps_fld (pn 0) (pn 1) rfl)
  (pss_one (ps_fld (pn 0) pe_int rfl)))
theorem ok_Reading_next (T : Top P K mg A W base) : FnOk P w K mg base (L2N.CX P w) 1 W.a_Reading_next W.d_Reading_next ["self"] (sp_Reading_next K A) := by
  refine okF T.F_Reading_next sc_Reading_next (fun vs H Q E h => by first | (obtain ⟨rfl, _⟩ := h; rfl) | (obtain ⟨_, rfl, _⟩ := h; rfl) | (obtain ⟨_, _, rfl, _⟩ := h; rfl) | (obtain ⟨_, _, _, rfl, _⟩ := h; rfl) | (obtain ⟨_, _, _, _, rfl, _⟩ := h; rfl) | (obtain ⟨_, _, _, _, _, rfl, _⟩ := h; rfl) | (obtain ⟨_, _, _, _, _, _, rfl, _⟩ := h; rfl) | (obtain ⟨_, _, _, _, _, _, _, rfl, _⟩ := h; rfl) | (obtain ⟨_, _, _, _, _, _, _, _, rfl, _⟩ := h; rfl) | (obtain ⟨_, _, _, _, _, _, _, _, _, rfl, _⟩ := h; rfl) | (obtain ⟨_, _, _, _, _, _, _, _, _, _, rfl, _⟩ := h; rfl) | (obtain ⟨_, _, _, _, _, _, _, _, _, _, _, rfl, _⟩ := h; rfl) | (obtain ⟨_, _, _, _, _, _, _, _, _, _, _, _, rfl, _⟩ := h; rfl) | (obtain ⟨_, _, _, _, _, _, _, _, _, _, _, _, _, rfl, _⟩ := h; rfl) | (obtain ⟨_, _, _, _, _, _, _, _, _, _, _, _, _, _, rfl, _⟩ := h; rfl) | (obtain ⟨_, _, _, _, _, _, _, _, _, _, _, _, _, _, _, rfl, _⟩ := h; rfl) | (obtain ⟨_, _, _, _, _, _, _, _, _, _, _, _, _, _, _, _, rfl, _⟩ := h; rfl) | (obtain ⟨_, _, _, _, _, _, _, _, _, _, _, _, _, _, _, _, _, rfl, _⟩ := h; rfl) | (obtain ⟨_, _, _, _, _, _, _, _, _, _, _, _, _, _, _, _, _, _, rfl, _⟩ := h; rfl) | (obtain ⟨_, _, _, _, _, _, _, _, _, _, _, _, _, _, _, _, _, _, _, rfl, _⟩ := h; rfl) | (obtain ⟨_, _, _, _, _, _, _, _, _, _, _, _, _, _, _, _, _, _, _, _, rfl, _⟩ := h; rfl) | (obtain ⟨_, _, _, _, _, _, _, _, _, _, _, _, _, _, _, _, _, _, _, _, _, rfl, _⟩ := h; rfl) | (obtain ⟨_, _, _, _, _, _, _, _, _, _, _, _, _, _, _, _, _, _, _, _, _, _, rfl, _⟩ := h; rfl) | (obtain ⟨_, _, _, _, _, _, _, _, _, _, _, _, _, _, _, _, _, _, _, _, _, _, _, rfl, _⟩ := h; rfl) | (obtain ⟨_, _, _, _, _, _, _, _, _, _, _, _, _, _, _, _, _, _, _, _, _, _, _, _, rfl, _⟩ := h; rfl) | (obtain ⟨_, _, _, _, _, _, _, _, _, _, _, _, _, _, _, _, _, _, _, _, _, _, _, _, _, rfl, _⟩ := h; rfl) | (obtain ⟨_, _, _, _, _, _, _, _, _, _, _, _, _, _, _, _, _, _, _, _, _, _, _, _, _, _, rfl, _⟩ := h; rfl) | (obtain ⟨_, _, _, _, _, _, _, _, _, _, _, _, _, _, _, _, _, _, _, _, _, _, _, _, _, _, _, rfl, _⟩ := h; rfl) | (obtain ⟨_, _, _, _, _, _, _, _, _, _, _, _, _, _, _, _, _, _, _, _, _, _, _, _, _, _, _, _, rfl, _⟩ := h; rfl) | (obtain ⟨_, _, _, _, _, _, _, _, _, _, _, _, _, _, _, _, _, _, _, _, _, _, _, _, _, _, _, _, _, rfl, _⟩ := h; rfl) | (obtain ⟨_, _, _, _, _, _, _, _, _, _, _, _, _, _, _, _, _, _, _, _, _, _, _, _, _, _, _, _, _, _, rfl, _⟩ := h; rfl) | (obtain ⟨_, _, _, _, _, _, _, _, _, _, _, _, _, _, _, _, _, _, _, _, _, _, _, _, _, _, _, _, _, _, _, rfl, _⟩ := h; rfl)) (fun cdv A' outer s H vs Q E hr h => ⟨t_Reading_next K A (fun cls d _ H => E cls d H), ?_, rd_Reading_next T.xc h⟩)
  unfold t_Reading_next
  exact (pss_cons (p_if (m_test (pt_cmpR o_ge (pe_fld (pn 0) rfl) (pe_callB c_len (by rfl) T.n_len (by decide +kernel) (pa_cons (pe_fld (pn 0) rfl) pa_nil)) (nomark _)))
    (pss_one (p_raise0N rfl (L2N.takes_of rfl rfl rfl rfl) PySem.F.excBase_ValueError T.x_NoEntry T.m_NoEntry T.k_NoEntry T.bb_NoEntry T.tt_NoEntry (by rfl)))
    pss_nil)
  (pss_cons (ps_fldaug (pn 0) pe_int in_addM)
  (pss_one (ps_ret (pe_ix ix_seq (pe_fld (pn 0) rfl) (pe_op o_sub (pe_fld (pn 0) rfl) pe_int) (fun _ _ => rfl))))))
theorem ok_Reading_integer (T : Top P K mg A W base) : FnOk P w K mg base (L2N.CX P w) 2 W.a_Reading_integer W.d_Reading_integer ["self", "sign"] (sp_Reading_integer K A) := by
  refine okF T.F_Reading_integer sc_Reading_integer (fun vs H Q E h => by first | (obtain ⟨rfl, _⟩ := h; rfl) | (obtain ⟨_, rfl, _⟩ := h; rfl) | (obtain ⟨_, _, rfl, _⟩ := h; rfl) | (obtain ⟨_, _, _, rfl, _⟩ := h; rfl) | (obtain ⟨_, _, _, _, rfl, _⟩ := h; rfl) | (obtain ⟨_, _, _, _, _, rfl, _⟩ := h; rfl) | (obtain ⟨_, _, _, _, _, _, rfl, _⟩ := h; rfl) | (obtain ⟨_, _, _, _, _, _, _, rfl, _⟩ := h; rfl) | (obtain ⟨_, _, _, _, _, _, _, _, rfl, _⟩ := h; rfl) | (obtain ⟨_, _, _, _, _, _, _, _, _, rfl, _⟩ := h; rfl) | (obtain ⟨_, _, _, _, _, _, _, _, _, _, rfl, _⟩ := h; rfl) | (obtain ⟨_, _, _, _, _, _, _, _, _, _, _, rfl, _⟩ := h; rfl) | (obtain ⟨_, _, _, _, _, _, _, _, _, _, _, _, rfl, _⟩ := h; rfl) | (obtain ⟨_, _, _, _, _, _, _, _, _, _, _, _, _, rfl, _⟩ := h; rfl) | (obtain ⟨_, _, _, _, _, _, _, _, _, _, _, _, _, _, rfl, _⟩ := h; rfl) | (obtain ⟨_, _, _, _, _, _, _, _, _, _, _, _, _, _, _, rfl, _⟩ := h; rfl) | (obtain ⟨_, _, _, _, _, _, _, _, _, _, _, _, _, _, _, _, rfl, _⟩ := h; rfl) | (obtain ⟨_, _, _, _, _, _, _, _, _, _, _, _, _, _, _, _, _, rfl, _⟩ := h; rfl) | (obtain ⟨_, _, _, _, _, _, _, _, _, _, _, _, _, _, _, _, _, _, rfl, _⟩ := h; rfl) | (obtain ⟨_, _, _, _, _, _, _, _, _, _, _, _, _, _, _, _, _, _, _, rfl, _⟩ := h; rfl) | (obtain ⟨_, _, _, _, _, _, _, _, _, _, _, _, _, _, _, _, _, _, _, _, rfl, _⟩ := h; rfl) | (obtain ⟨_, _, _, _, _, _, _, _, _, _, _, _, _, _, _, _, _, _, _, _, _, rfl, _⟩ := h; rfl) | (obtain ⟨_, _, _, _, _, _, _, _, _, _, _, _, _, _, _, _, _, _, _, _, _, _, rfl, _⟩ := h; rfl) | (obtain ⟨_, _, _, _, _, _, _, _, _, _, _, _, _, _, _, _, _, _, _, _, _, _, _, rfl, _⟩ := h; rfl) | (obtain ⟨_, _, _, _, _, _, _, _, _, _, _, _, _, _, _, _, _, _, _, _, _, _, _, _, rfl, _⟩ := h; rfl) | (obtain ⟨_, _, _, _, _, _, _, _, _, _, _, _, _, _, _, _, _, _, _, _, _, _, _, _, _, rfl, _⟩ := h; rfl) | (obtain ⟨_, _, _, _, _, _, _, _, _, _, _, _, _, _, _, _, _, _, _, _, _, _, _, _, _, _, rfl, _⟩ := h; rfl) | (obtain ⟨_, _, _, _, _, _, _, _, _, _, _, _, _, _, _, _, _, _, _, _, _, _, _, _, _, _, _, rfl, _⟩ := h; rfl) | (obtain ⟨_, _, _, _, _, _, _, _, _, _, _, _, _, _, _, _, _, _, _, _, _, _, _, _, _, _, _, _, rfl, _⟩ := h; rfl) | (obtain ⟨_, _, _, _, _, _, _, _, _, _, _, _, _, _, _, _, _, _, _, _, _, _, _, _, _, _, _, _, _, rfl, _⟩ := h; rfl) | (obtain ⟨_, _, _, _, _, _, _, _, _, _, _, _, _, _, _, _, _, _, _, _, _, _, _, _, _, _, _, _, _, _, rfl, _⟩ := h; rfl) | (obtain ⟨_, _, _, _, _, _, _, _, _, _, _, _, _, _, _, _, _, _, _, _, _, _, _, _, _, _, _, _, _, _, _, rfl, _⟩ := h; rfl)) (fun cdv A' outer s H vs Q E hr h => ⟨t_Reading_integer K A (fun cls d _ H => E cls d H), ?_, rd_Reading_integer T.xc h⟩)
  unfold t_Reading_integer
  exact (pss_cons (ps_set (i := 2) sc_Reading_integer.nd rfl (Or.inl rfl) pe_int)
  (pss_cons (ps_set (i := 3) sc_Reading_integer.nd rfl (Or.inl rfl) pe_int)
  (pss_cons (ps_for (passes_of rfl) rfl (i_rng1 (pi_range1 (by rfl) T.n_range (pa_cons (pe_glob (by rfl) T.m_INTEGER_BYTES.choose_spec ⟨_, rfl⟩) pa_nil))) (pg_name (i := 4) sc_Reading_integer.nd rfl (Or.inl rfl))
    (pss_cons (p_aug (i := 2) sc_Reading_integer.nd rfl (Or.inl rfl) (pe_op o_mul (pn 3) (pe_methE0 (pn 0) T.cl_Reading T.M_Reading_next (ok_Reading_next T) (hr.mono (by decide)) T.b_Reading_next (fun σ => L2N.passAt (L2N.takes_of rfl rfl rfl rfl) σ))) i_add)
  (pss_one (ps_set (i := 3) sc_Reading_integer.nd rfl (Or.inl rfl) (pe_op o_mul (pn 3) (pe_glob (by rfl) T.m_BYTE.choose_spec ⟨_, rfl⟩))))))
  (pss_cons (p_if (PW.pt (pw_or (m_test (pt_cmpR o_gt (pn 1) pe_int (nomark _))) (pw_or1 (PW.pt (pw_and (m_test (pt_cmpR (o_eq hr.units) (pn 1) pe_int (nomark _))) (pw_and1 (m_test (pt_cmpR (o_eq hr.units) (pn 2) pe_int (nomark _)))))))))
    (pss_one (p_raise0N rfl (L2N.takes_of rfl rfl rfl rfl) PySem.F.excBase_ValueError T.x_NoEntry T.m_NoEntry T.k_NoEntry T.bb_NoEntry T.tt_NoEntry (by rfl)))
    pss_nil)
  (pss_one (ps_ret (p_ifE (m_test (pt_cmpR (o_eq hr.units) (pn 1) pe_int (nomark _))) (pe_op o_sub pe_int (pn 2)) (pn 2))))))))
theorem ok_Reading_character (T : Top P K mg A W base) : FnOk P w K mg base (L2N.CX P w) 2 W.a_Reading_character W.d_Reading_character ["self"] (sp_Reading_character K A) := by
  refine okF T.F_Reading_character sc_Reading_character (fun vs H Q E h => by first | (obtain ⟨rfl, _⟩ := h; rfl) | (obtain ⟨_, rfl, _⟩ := h; rfl) | (obtain ⟨_, _, rfl, _⟩ := h; rfl) | (obtain ⟨_, _, _, rfl, _⟩ := h; rfl) | (obtain ⟨_, _, _, _, rfl, _⟩ := h; rfl) | (obtain ⟨_, _, _, _, _, rfl, _⟩ := h; rfl) | (obtain ⟨_, _, _, _, _, _, rfl, _⟩ := h; rfl) | (obtain ⟨_, _, _, _, _, _, _, rfl, _⟩ := h; rfl) | (obtain ⟨_, _, _, _, _, _, _, _, rfl, _⟩ := h; rfl) | (obtain ⟨_, _, _, _, _, _, _, _, _, rfl, _⟩ := h; rfl) | (obtain ⟨_, _, _, _, _, _, _, _, _, _, rfl, _⟩ := h; rfl) | (obtain ⟨_, _, _, _, _, _, _, _, _, _, _, rfl, _⟩ := h; rfl) | (obtain ⟨_, _, _, _, _, _, _, _, _, _, _, _, rfl, _⟩ := h; rfl) | (obtain ⟨_, _, _, _, _, _, _, _, _, _, _, _, _, rfl, _⟩ := h; rfl) | (obtain ⟨_, _, _, _, _, _, _, _, _, _, _, _, _, _, rfl, _⟩ := h; rfl) | (obtain ⟨_, _, _, _, _, _, _, _, _, _, _, _, _, _, _, rfl, _⟩ := h; rfl) | (obtain ⟨_, _, _, _, _, _, _, _, _, _, _, _, _, _, _, _, rfl, _⟩ := h; rfl) | (obtain ⟨_, _, _, _, _, _, _, _, _, _, _, _, _, _, _, _, _, rfl, _⟩ := h; rfl) | (obtain ⟨_, _, _, _, _, _, _, _, _, _, _, _, _, _, _, _, _, _, rfl, _⟩ := h; rfl) | (obtain ⟨_, _, _, _, _, _, _, _, _, _, _, _, _, _, _, _, _, _, _, rfl, _⟩ := h; rfl) | (obtain ⟨_, _, _, _, _, _, _, _, _, _, _, _, _, _, _, _, _, _, _, _, rfl, _⟩ := h; rfl) | (obtain ⟨_, _, _, _, _, _, _, _, _, _, _, _, _, _, _, _, _, _, _, _, _, rfl, _⟩ := h; rfl) | (obtain ⟨_, _, _, _, _, _, _, _, _, _, _, _, _, _, _, _, _, _, _, _, _, _, rfl, _⟩ := h; rfl) | (obtain ⟨_, _, _, _, _, _, _, _, _, _, _, _, _, _, _, _, _, _, _, _, _, _, _, rfl, _⟩ := h; rfl) | (obtain ⟨_, _, _, _, _, _, _, _, _, _, _, _, _, _, _, _, _, _, _, _, _, _, _, _, rfl, _⟩ := h; rfl) | (obtain ⟨_, _, _, _, _, _, _, _, _, _, _, _, _, _, _, _, _, _, _, _, _, _, _, _, _, rfl, _⟩ := h; rfl) | (obtain ⟨_, _, _, _, _, _, _, _, _, _, _, _, _, _, _, _, _, _, _, _, _, _, _, _, _, _, rfl, _⟩ := h; rfl) | (obtain ⟨_, _, _, _, _, _, _, _, _, _, _, _, _, _, _, _, _, _, _, _, _, _, _, _, _, _, _, rfl, _⟩ := h; rfl) | (obtain ⟨_, _, _, _, _, _, _, _, _, _, _, _, _, _, _, _, _, _, _, _, _, _, _, _, _, _, _, _, rfl, _⟩ := h; rfl) | (obtain ⟨_, _, _, _, _, _, _, _, _, _, _, _, _, _, _, _, _, _, _, _, _, _, _, _, _, _, _, _, _, rfl, _⟩ := h; rfl) | (obtain ⟨_, _, _, _, _, _, _, _, _, _, _, _, _, _, _, _, _, _, _, _, _, _, _, _, _, _, _, _, _, _, rfl, _⟩ := h; rfl) | (obtain ⟨_, _, _, _, _, _, _, _, _, _, _, _, _, _, _, _, _, _, _, _, _, _, _, _, _, _, _, _, _, _, _, rfl, _⟩ := h; rfl)) (fun cdv A' outer s H vs Q E hr h => ⟨t_Reading_character K A (fun cls d _ H => E cls d H), ?_, rd_Reading_character T.xc h⟩)
  unfold t_Reading_character
  exact (pss_cons (ps_set (i := 1) sc_Reading_character.nd rfl (Or.inl rfl) (pe_methE0 (pn 0) T.cl_Reading T.M_Reading_next (ok_Reading_next T) (hr.mono (by decide)) T.b_Reading_next (fun σ => L2N.passAt (L2N.takes_of rfl rfl rfl rfl) σ)))
  (pss_cons (p_if (m_test (pt_cmpR (o_eq hr.units) (pn 1) (pe_glob (by rfl) T.m_NEWLINE.choose_spec ⟨_, rfl⟩) (nomark _)))
    (pss_one (ps_ret pe_str))
    pss_nil)
  (pss_cons (ps_set (i := 2) sc_Reading_character.nd rfl (Or.inl rfl) (pe_op o_sub (pe_op o_sub (pn 1) (pe_glob (by rfl) T.m_FIRST_SIGN.choose_spec ⟨_, rfl⟩)) (p_ifE (m_test (pt_cmpR o_gt (pn 1) (pe_glob (by rfl) T.m_LEFT_OUT.choose_spec ⟨_, rfl⟩) (nomark _))) pe_int pe_int)))
  (pss_cons (p_if (PW.pt (pw_or (m_test (pt_cmpR (o_eq hr.units) (pn 1) (pe_glob (by rfl) T.m_LEFT_OUT.choose_spec ⟨_, rfl⟩) (nomark _))) (pw_or (m_test (pt_cmpR o_lt (pn 2) pe_int (nomark _))) (pw_or1 (m_test (pt_cmpR o_ge (pn 2) (pe_callB c_len (by rfl) T.n_len (by decide +kernel) (pa_cons (pe_glob (by rfl) T.m_SIGNS.choose_spec ⟨_, rfl⟩) pa_nil)) (nomark _)))))))
    (pss_one (p_raise0N rfl (L2N.takes_of rfl rfl rfl rfl) PySem.F.excBase_ValueError T.x_NoEntry T.m_NoEntry T.k_NoEntry T.bb_NoEntry T.tt_NoEntry (by rfl)))
    pss_nil)
  (pss_one (ps_ret (pe_ix ix_seq (pe_glob (by rfl) T.m_SIGNS.choose_spec ⟨_, rfl⟩) (pn 2) (fun _ _ => rfl))))))))
theorem ok_Reading_characters (T : Top P K mg A W base) : FnOk P w K mg base (L2N.CX P w) 3 W.a_Reading_characters W.d_Reading_characters ["self", "many"] (sp_Reading_characters K A) := by
  refine okF T.F_Reading_characters sc_Reading_characters (fun vs H Q E h => by first | (obtain ⟨rfl, _⟩ := h; rfl) | (obtain ⟨_, rfl, _⟩ := h; rfl) | (obtain ⟨_, _, rfl, _⟩ := h; rfl) | (obtain ⟨_, _, _, rfl, _⟩ := h; rfl) | (obtain ⟨_, _, _, _, rfl, _⟩ := h; rfl) | (obtain ⟨_, _, _, _, _, rfl, _⟩ := h; rfl) | (obtain ⟨_, _, _, _, _, _, rfl, _⟩ := h; rfl) | (obtain ⟨_, _, _, _, _, _, _, rfl, _⟩ := h; rfl) | (obtain ⟨_, _, _, _, _, _, _, _, rfl, _⟩ := h; rfl) | (obtain ⟨_, _, _, _, _, _, _, _, _, rfl, _⟩ := h; rfl) | (obtain ⟨_, _, _, _, _, _, _, _, _, _, rfl, _⟩ := h; rfl) | (obtain ⟨_, _, _, _, _, _, _, _, _, _, _, rfl, _⟩ := h; rfl) | (obtain ⟨_, _, _, _, _, _, _, _, _, _, _, _, rfl, _⟩ := h; rfl) | (obtain ⟨_, _, _, _, _, _, _, _, _, _, _, _, _, rfl, _⟩ := h; rfl) | (obtain ⟨_, _, _, _, _, _, _, _, _, _, _, _, _, _, rfl, _⟩ := h; rfl) | (obtain ⟨_, _, _, _, _, _, _, _, _, _, _, _, _, _, _, rfl, _⟩ := h; rfl) | (obtain ⟨_, _, _, _, _, _, _, _, _, _, _, _, _, _, _, _, rfl, _⟩ := h; rfl) | (obtain ⟨_, _, _, _, _, _, _, _, _, _, _, _, _, _, _, _, _, rfl, _⟩ := h; rfl) | (obtain ⟨_, _, _, _, _, _, _, _, _, _, _, _, _, _, _, _, _, _, rfl, _⟩ := h; rfl) | (obtain ⟨_, _, _, _, _, _, _, _, _, _, _, _, _, _, _, _, _, _, _, rfl, _⟩ := h; rfl) | (obtain ⟨_, _, _, _, _, _, _, _, _, _, _, _, _, _, _, _, _, _, _, _, rfl, _⟩ := h; rfl) | (obtain ⟨_, _, _, _, _, _, _, _, _, _, _, _, _, _, _, _, _, _, _, _, _, rfl, _⟩ := h; rfl) | (obtain ⟨_, _, _, _, _, _, _, _, _, _, _, _, _, _, _, _, _, _, _, _, _, _, rfl, _⟩ := h; rfl) | (obtain ⟨_, _, _, _, _, _, _, _, _, _, _, _, _, _, _, _, _, _, _, _, _, _, _, rfl, _⟩ := h; rfl) | (obtain ⟨_, _, _, _, _, _, _, _, _, _, _, _, _, _, _, _, _, _, _, _, _, _, _, _, rfl, _⟩ := h; rfl) | (obtain ⟨_, _, _, _, _, _, _, _, _, _, _, _, _, _, _, _, _, _, _, _, _, _, _, _, _, rfl, _⟩ := h; rfl) | (obtain ⟨_, _, _, _, _, _, _, _, _, _, _, _, _, _, _, _, _, _, _, _, _, _, _, _, _, _, rfl, _⟩ := h; rfl) | (obtain ⟨_, _, _, _, _, _, _, _, _, _, _, _, _, _, _, _, _, _, _, _, _, _, _, _, _, _, _, rfl, _⟩ := h; rfl) | (obtain ⟨_, _, _, _, _, _, _, _, _, _, _, _, _, _, _, _, _, _, _, _, _, _, _, _, _, _, _, _, rfl, _⟩ := h; rfl) | (obtain ⟨_, _, _, _, _, _, _, _, _, _, _, _, _, _, _, _, _, _, _, _, _, _, _, _, _, _, _, _, _, rfl, _⟩ := h; rfl) | (obtain ⟨_, _, _, _, _, _, _, _, _, _, _, _, _, _, _, _, _, _, _, _, _, _, _, _, _, _, _, _, _, _, rfl, _⟩ := h; rfl) | (obtain ⟨_, _, _, _, _, _, _, _, _, _, _, _, _, _, _, _, _, _, _, _, _, _, _, _, _, _, _, _, _, _, _, rfl, _⟩ := h; rfl)) (fun cdv A' outer s H vs Q E hr h => ⟨t_Reading_characters K A (fun cls d _ H => E cls d H), ?_, rd_Reading_characters T.xc h⟩)
  unfold t_Reading_characters
  exact (pss_one (ps_ret (p_join (pe_lcW (own := [("_", 2)]) (g := (gName 2)) (tt := tYes) rfl rfl rfl (L2N.takes_of rfl rfl rfl rfl) sc_Reading_characters.nd (i_rng1 (pi_range1 (by rfl) T.n_range (pa_cons (pn 1) pa_nil))) (blkOk_by (own := [("_", 2)]) (N := nm_Reading_characters) (sc := defScope s_Reading_characters) (by decide +kernel)) (fun _ _ _ _ _ => (pg_name (i := 2) sc_Reading_characters.nd rfl (Or.inl rfl))) (fun _ _ _ _ _ => pts_nil) (fun _ _ _ _ _ Wc xe9 pa => (pe_methE0 (pn 0) T.cl_Reading T.M_Reading_character (ok_Reading_character T) (hr.mono (by decide)) T.b_Reading_character pa))))))
theorem ok_Reading_argument (T : Top P K mg A W base) : FnOk P w K mg base (L2N.CX P w) 4 W.a_Reading_argument W.d_Reading_argument ["self", "kind"] (sp_Reading_argument K A) := by
  refine okF T.F_Reading_argument sc_Reading_argument (fun vs H Q E h => by first | (obtain ⟨rfl, _⟩ := h; rfl) | (obtain ⟨_, rfl, _⟩ := h; rfl) | (obtain ⟨_, _, rfl, _⟩ := h; rfl) | (obtain ⟨_, _, _, rfl, _⟩ := h; rfl) | (obtain ⟨_, _, _, _, rfl, _⟩ := h; rfl) | (obtain ⟨_, _, _, _, _, rfl, _⟩ := h; rfl) | (obtain ⟨_, _, _, _, _, _, rfl, _⟩ := h; rfl) | (obtain ⟨_, _, _, _, _, _, _, rfl, _⟩ := h; rfl) | (obtain ⟨_, _, _, _, _, _, _, _, rfl, _⟩ := h; rfl) | (obtain ⟨_, _, _, _, _, _, _, _, _, rfl, _⟩ := h; rfl) | (obtain ⟨_, _, _, _, _, _, _, _, _, _, rfl, _⟩ := h; rfl) | (obtain ⟨_, _, _, _, _, _, _, _, _, _, _, rfl, _⟩ := h; rfl) | (obtain ⟨_, _, _, _, _, _, _, _, _, _, _, _, rfl, _⟩ := h; rfl) | (obtain ⟨_, _, _, _, _, _, _, _, _, _, _, _, _, rfl, _⟩ := h; rfl) | (obtain ⟨_, _, _, _, _, _, _, _, _, _, _, _, _, _, rfl, _⟩ := h; rfl) | (obtain ⟨_, _, _, _, _, _, _, _, _, _, _, _, _, _, _, rfl, _⟩ := h; rfl) | (obtain ⟨_, _, _, _, _, _, _, _, _, _, _, _, _, _, _, _, rfl, _⟩ := h; rfl) | (obtain ⟨_, _, _, _, _, _, _, _, _, _, _, _, _, _, _, _, _, rfl, _⟩ := h; rfl) | (obtain ⟨_, _, _, _, _, _, _, _, _, _, _, _, _, _, _, _, _, _, rfl, _⟩ := h; rfl) | (obtain ⟨_, _, _, _, _, _, _, _, _, _, _, _, _, _, _, _, _, _, _, rfl, _⟩ := h; rfl) | (obtain ⟨_, _, _, _, _, _, _, _, _, _, _, _, _, _, _, _, _, _, _, _, rfl, _⟩ := h; rfl) | (obtain ⟨_, _, _, _, _, _, _, _, _, _, _, _, _, _, _, _, _, _, _, _, _, rfl, _⟩ := h; rfl) | (obtain ⟨_, _, _, _, _, _, _, _, _, _, _, _, _, _, _, _, _, _, _, _, _, _, rfl, _⟩ := h; rfl) | (obtain ⟨_, _, _, _, _, _, _, _, _, _, _, _, _, _, _, _, _, _, _, _, _, _, _, rfl, _⟩ := h; rfl) | (obtain ⟨_, _, _, _, _, _, _, _, _, _, _, _, _, _, _, _, _, _, _, _, _, _, _, _, rfl, _⟩ := h; rfl) | (obtain ⟨_, _, _, _, _, _, _, _, _, _, _, _, _, _, _, _, _, _, _, _, _, _, _, _, _, rfl, _⟩ := h; rfl) | (obtain ⟨_, _, _, _, _, _, _, _, _, _, _, _, _, _, _, _, _, _, _, _, _, _, _, _, _, _, rfl, _⟩ := h; rfl) | (obtain ⟨_, _, _, _, _, _, _, _, _, _, _, _, _, _, _, _, _, _, _, _, _, _, _, _, _, _, _, rfl, _⟩ := h; rfl) | (obtain ⟨_, _, _, _, _, _, _, _, _, _, _, _, _, _, _, _, _, _, _, _, _, _, _, _, _, _, _, _, rfl, _⟩ := h; rfl) | (obtain ⟨_, _, _, _, _, _, _, _, _, _, _, _, _, _, _, _, _, _, _, _, _, _, _, _, _, _, _, _, _, rfl, _⟩ := h; rfl) | (obtain ⟨_, _, _, _, _, _, _, _, _, _, _, _, _, _, _, _, _, _, _, _, _, _, _, _, _, _, _, _, _, _, rfl, _⟩ := h; rfl) | (obtain ⟨_, _, _, _, _, _, _, _, _, _, _, _, _, _, _, _, _, _, _, _, _, _, _, _, _, _, _, _, _, _, _, rfl, _⟩ := h; rfl)) (fun cdv A' outer s H vs Q E hr h => ⟨t_Reading_argument K A (fun cls d _ H => E cls d H), ?_, rd_Reading_argument T.xc h⟩)
  unfold t_Reading_argument
  exact (pss_cons (ps_set (i := 2) sc_Reading_argument.nd rfl (Or.inl rfl) (pe_methE0 (pn 0) T.cl_Reading T.M_Reading_next (ok_Reading_next T) (hr.mono (by decide)) T.b_Reading_next (fun σ => L2N.passAt (L2N.takes_of rfl rfl rfl rfl) σ)))
  (pss_cons (p_if (m_test (pt_cmpR (o_eq hr.units) (pn 1) pe_str (nomark _)))
    (pss_cons (p_if (m_test (pt_cmpR o_gt (pn 2) pe_int (nomark _)))
    (pss_one (p_raise0N rfl (L2N.takes_of rfl rfl rfl rfl) PySem.F.excBase_ValueError T.x_NoEntry T.m_NoEntry T.k_NoEntry T.bb_NoEntry T.tt_NoEntry (by rfl)))
    pss_nil)
  (pss_one (ps_ret (pe_cmpR (o_eq hr.units) (pn 2) pe_int (nomark _)))))
    pss_nil)
  (pss_cons (p_if (PW.pt (pw_or (PW.pt (pw_and (m_test (pt_cmpR (o_eq hr.units) (pn 1) pe_str (nomark _))) (pw_and1 (m_test (pt_cmpR (o_eq hr.units) (pn 2) (pe_glob (by rfl) T.m_NO_INTEGER.choose_spec ⟨_, rfl⟩) (nomark _)))))) (pw_or1 (PW.pt (pw_and (m_test (pt_cmpR (o_eq hr.units) (pn 1) pe_str (nomark _))) (pw_and1 (m_test (pt_cmpR (o_eq hr.units) (pn 2) (pe_glob (by rfl) T.m_NO_TEXT.choose_spec ⟨_, rfl⟩) (nomark _)))))))))
    (pss_one (ps_ret pe_non))
    pss_nil)
  (pss_cons (p_if (m_test (pt_cmpR o_inS (pn 1) pe_str rfl))
    (pss_one (ps_ret (pe_methE (pn 0) T.cl_Reading T.M_Reading_integer (ok_Reading_integer T) (hr.mono (by decide)) T.b_Reading_integer (fun σ => L2N.passAt (L2N.takes_of rfl rfl rfl rfl) σ) (pa_cons (pn 2) pa_nil))))
    pss_nil)
  (pss_cons (p_if (m_test (pt_cmpR (o_eq hr.units) (pn 2) (pe_glob (by rfl) T.m_NO_TEXT.choose_spec ⟨_, rfl⟩) (nomark _)))
    (pss_one (p_raise0N rfl (L2N.takes_of rfl rfl rfl rfl) PySem.F.excBase_ValueError T.x_NoEntry T.m_NoEntry T.k_NoEntry T.bb_NoEntry T.tt_NoEntry (by rfl)))
    pss_nil)
  (pss_one (ps_ret (pe_methE (pn 0) T.cl_Reading T.M_Reading_characters (ok_Reading_characters T) (hr.mono (by decide)) T.b_Reading_characters (fun σ => L2N.passAt (L2N.takes_of rfl rfl rfl rfl) σ) (pa_cons (pn 2) pa_nil)))))))))
theorem ok_read_entry (T : Top P K mg A W base) : FnOk P w K mg base (L2N.CX P w) 5 W.a_read_entry W.d_read_entry ["numbers"] (sp_read_entry K A) := by
  refine okC T.F_read_entry sc_read_entry (fun vs H Q E h => by first | (obtain ⟨rfl, _⟩ := h; rfl) | (obtain ⟨_, rfl, _⟩ := h; rfl) | (obtain ⟨_, _, rfl, _⟩ := h; rfl) | (obtain ⟨_, _, _, rfl, _⟩ := h; rfl) | (obtain ⟨_, _, _, _, rfl, _⟩ := h; rfl) | (obtain ⟨_, _, _, _, _, rfl, _⟩ := h; rfl) | (obtain ⟨_, _, _, _, _, _, rfl, _⟩ := h; rfl) | (obtain ⟨_, _, _, _, _, _, _, rfl, _⟩ := h; rfl) | (obtain ⟨_, _, _, _, _, _, _, _, rfl, _⟩ := h; rfl) | (obtain ⟨_, _, _, _, _, _, _, _, _, rfl, _⟩ := h; rfl) | (obtain ⟨_, _, _, _, _, _, _, _, _, _, rfl, _⟩ := h; rfl) | (obtain ⟨_, _, _, _, _, _, _, _, _, _, _, rfl, _⟩ := h; rfl) | (obtain ⟨_, _, _, _, _, _, _, _, _, _, _, _, rfl, _⟩ := h; rfl) | (obtain ⟨_, _, _, _, _, _, _, _, _, _, _, _, _, rfl, _⟩ := h; rfl) | (obtain ⟨_, _, _, _, _, _, _, _, _, _, _, _, _, _, rfl, _⟩ := h; rfl) | (obtain ⟨_, _, _, _, _, _, _, _, _, _, _, _, _, _, _, rfl, _⟩ := h; rfl) | (obtain ⟨_, _, _, _, _, _, _, _, _, _, _, _, _, _, _, _, rfl, _⟩ := h; rfl) | (obtain ⟨_, _, _, _, _, _, _, _, _, _, _, _, _, _, _, _, _, rfl, _⟩ := h; rfl) | (obtain ⟨_, _, _, _, _, _, _, _, _, _, _, _, _, _, _, _, _, _, rfl, _⟩ := h; rfl) | (obtain ⟨_, _, _, _, _, _, _, _, _, _, _, _, _, _, _, _, _, _, _, rfl, _⟩ := h; rfl) | (obtain ⟨_, _, _, _, _, _, _, _, _, _, _, _, _, _, _, _, _, _, _, _, rfl, _⟩ := h; rfl) | (obtain ⟨_, _, _, _, _, _, _, _, _, _, _, _, _, _, _, _, _, _, _, _, _, rfl, _⟩ := h; rfl) | (obtain ⟨_, _, _, _, _, _, _, _, _, _, _, _, _, _, _, _, _, _, _, _, _, _, rfl, _⟩ := h; rfl) | (obtain ⟨_, _, _, _, _, _, _, _, _, _, _, _, _, _, _, _, _, _, _, _, _, _, _, rfl, _⟩ := h; rfl) | (obtain ⟨_, _, _, _, _, _, _, _, _, _, _, _, _, _, _, _, _, _, _, _, _, _, _, _, rfl, _⟩ := h; rfl) | (obtain ⟨_, _, _, _, _, _, _, _, _, _, _, _, _, _, _, _, _, _, _, _, _, _, _, _, _, rfl, _⟩ := h; rfl) | (obtain ⟨_, _, _, _, _, _, _, _, _, _, _, _, _, _, _, _, _, _, _, _, _, _, _, _, _, _, rfl, _⟩ := h; rfl) | (obtain ⟨_, _, _, _, _, _, _, _, _, _, _, _, _, _, _, _, _, _, _, _, _, _, _, _, _, _, _, rfl, _⟩ := h; rfl) | (obtain ⟨_, _, _, _, _, _, _, _, _, _, _, _, _, _, _, _, _, _, _, _, _, _, _, _, _, _, _, _, rfl, _⟩ := h; rfl) | (obtain ⟨_, _, _, _, _, _, _, _, _, _, _, _, _, _, _, _, _, _, _, _, _, _, _, _, _, _, _, _, _, rfl, _⟩ := h; rfl) | (obtain ⟨_, _, _, _, _, _, _, _, _, _, _, _, _, _, _, _, _, _, _, _, _, _, _, _, _, _, _, _, _, _, rfl, _⟩ := h; rfl) | (obtain ⟨_, _, _, _, _, _, _, _, _, _, _, _, _, _, _, _, _, _, _, _, _, _, _, _, _, _, _, _, _, _, _, rfl, _⟩ := h; rfl)) (fun A' outer s H vs Q E hr h => ⟨t_read_entry K A (fun cls d _ H => E cls d H), ?_, rd_read_entry T.xc h⟩)
  unfold t_read_entry
  have TB := T.tb
  exact (pss_cons (p_if (p_truth (pe_anyI hr (by rfl) T.n_any TB.tb_read_entry rfl ⟨rfl, rfl, by decide +kernel, rfl, rfl, noFree (by decide +kernel)⟩ (pn 0) (elt_rng rfl rfl rfl TB.ns T.m_BYTE.choose_spec) (fun _ => rfl)) (by intro _; rfl))
    (pss_one (p_raise0N rfl (L2N.takes_of rfl rfl rfl rfl) PySem.F.excBase_ValueError T.x_NoEntry T.m_NoEntry T.k_NoEntry T.bb_NoEntry T.tt_NoEntry (by rfl)))
    pss_nil)
  (pss_cons (ps_set (i := 1) sc_read_entry.nd rfl (Or.inr rfl) (pe_make T.K_Reading (ok_Reading___init__ T) (hr.mono (by decide)) (by rfl) T.m_Reading T.b_Reading___init__ .nil pass0 (pa_cons (pn 0) pa_nil)))
  (pss_cons (ps_set (i := 2) sc_read_entry.nd rfl (Or.inl rfl) (pe_methE0 (pn 1) T.cl_Reading T.M_Reading_next (ok_Reading_next T) (hr.mono (by decide)) T.b_Reading_next (fun σ => L2N.passAt (L2N.takes_of rfl rfl rfl rfl) σ)))
  (pss_cons (p_if (m_test (pt_cmpR (o_eq hr.units) (pn 2) pe_int (nomark _)))
    (pss_cons (ps_set (i := 3) sc_read_entry.nd rfl (Or.inl rfl) (pe_methE0 (pn 1) T.cl_Reading T.M_Reading_next (ok_Reading_next T) (hr.mono (by decide)) T.b_Reading_next (fun σ => L2N.passAt (L2N.takes_of rfl rfl rfl rfl) σ)))
  (pss_cons (p_aug (i := 3) sc_read_entry.nd rfl (Or.inl rfl) (pe_op o_mul (pe_glob (by rfl) T.m_BYTE.choose_spec ⟨_, rfl⟩) (pe_methE0 (pn 1) T.cl_Reading T.M_Reading_next (ok_Reading_next T) (hr.mono (by decide)) T.b_Reading_next (fun σ => L2N.passAt (L2N.takes_of rfl rfl rfl rfl) σ))) i_add)
  (pss_one (ps_ret (pe_tup (pa_cons (pe_glob (by rfl) T.m_START.choose_spec ⟨_, rfl⟩) (pa_cons (pe_tup (pa_cons (pn 3) (pa_cons (pe_methE (pn 1) T.cl_Reading T.M_Reading_characters (ok_Reading_characters T) (hr.mono (by decide)) T.b_Reading_characters (fun σ => L2N.passAt (L2N.takes_of rfl rfl rfl rfl) σ) (pa_cons (pe_op o_sub (pe_callB c_len (by rfl) T.n_len (by decide +kernel) (pa_cons (pn 0) pa_nil)) (pe_fld (pn 1) rfl)) pa_nil)) pa_nil))) pa_nil)))))))
    pss_nil)
  (pss_cons (p_if (m_test (pt_cmpR o_gt (pn 2) (pe_callB c_len (by rfl) T.n_len (by decide +kernel) (pa_cons (pe_glob (by rfl) T.m_FORMS rfl) pa_nil)) (nomark _)))
    (pss_one (p_raise0N rfl (L2N.takes_of rfl rfl rfl rfl) PySem.F.excBase_ValueError T.x_NoEntry T.m_NoEntry T.k_NoEntry T.bb_NoEntry T.tt_NoEntry (by rfl)))
    pss_nil)
  (pss_cons (ps_asg (pe_ix ix_seq (pe_glob (by rfl) T.m_FORMS rfl) (pe_op o_sub (pn 2) pe_int) (fun _ _ => rfl)) (pg_tup rfl (p_gcons (pg_name (i := 4) sc_read_entry.nd rfl (Or.inl rfl)) (p_gcons (pg_name (i := 5) sc_read_entry.nd rfl (Or.inl rfl)) p_gnil))))
  (pss_cons (ps_set (i := 6) sc_read_entry.nd rfl (Or.inl rfl) (pe_callTy c_tuple (by rfl) T.n_tuple (by decide +kernel) (pa_cons (pe_lcW (own := [("kind", 7)]) (g := (gName 7)) (tt := tYes) rfl rfl rfl (L2N.takes_of rfl rfl rfl rfl) sc_read_entry.nd (i_str (pi_str (pn 5))) (blkOk_by (own := [("kind", 7)]) (N := nm_read_entry) (sc := defScope s_read_entry) (by decide +kernel)) (fun _ _ _ _ _ => (pg_name (i := 7) sc_read_entry.nd rfl (Or.inl rfl))) (fun _ _ _ _ _ => pts_nil) (fun _ _ _ _ _ Wc xe9 pa => (pe_methE (pn 1) T.cl_Reading T.M_Reading_argument (ok_Reading_argument T) (hr.mono (by decide)) T.b_Reading_argument pa (pa_cons (pn 7) pa_nil)))) pa_nil)))
  (pss_cons (p_if (m_test (pt_cmpR (o_ne hr.units) (pe_fld (pn 1) rfl) (pe_callB c_len (by rfl) T.n_len (by decide +kernel) (pa_cons (pn 0) pa_nil)) (nomark _)))
    (pss_one (p_raise0N rfl (L2N.takes_of rfl rfl rfl rfl) PySem.F.excBase_ValueError T.x_NoEntry T.m_NoEntry T.k_NoEntry T.bb_NoEntry T.tt_NoEntry (by rfl)))
    pss_nil)
  (pss_one (ps_ret (pe_tup (pa_cons (pn 4) (pa_cons (pn 6) pa_nil)))))))))))))
theorem ok_read_journal (T : Top P K mg A W base) : FnOk P w K mg base (L2.CX P w) 6 W.a_read_journal W.d_read_journal ["numbers"] (sp_read_journal K A) := by
  refine okC T.F_read_journal sc_read_journal (fun vs H Q E h => by first | (obtain ⟨rfl, _⟩ := h; rfl) | (obtain ⟨_, rfl, _⟩ := h; rfl) | (obtain ⟨_, _, rfl, _⟩ := h; rfl) | (obtain ⟨_, _, _, rfl, _⟩ := h; rfl) | (obtain ⟨_, _, _, _, rfl, _⟩ := h; rfl) | (obtain ⟨_, _, _, _, _, rfl, _⟩ := h; rfl) | (obtain ⟨_, _, _, _, _, _, rfl, _⟩ := h; rfl) | (obtain ⟨_, _, _, _, _, _, _, rfl, _⟩ := h; rfl) | (obtain ⟨_, _, _, _, _, _, _, _, rfl, _⟩ := h; rfl) | (obtain ⟨_, _, _, _, _, _, _, _, _, rfl, _⟩ := h; rfl) | (obtain ⟨_, _, _, _, _, _, _, _, _, _, rfl, _⟩ := h; rfl) | (obtain ⟨_, _, _, _, _, _, _, _, _, _, _, rfl, _⟩ := h; rfl) | (obtain ⟨_, _, _, _, _, _, _, _, _, _, _, _, rfl, _⟩ := h; rfl) | (obtain ⟨_, _, _, _, _, _, _, _, _, _, _, _, _, rfl, _⟩ := h; rfl) | (obtain ⟨_, _, _, _, _, _, _, _, _, _, _, _, _, _, rfl, _⟩ := h; rfl) | (obtain ⟨_, _, _, _, _, _, _, _, _, _, _, _, _, _, _, rfl, _⟩ := h; rfl) | (obtain ⟨_, _, _, _, _, _, _, _, _, _, _, _, _, _, _, _, rfl, _⟩ := h; rfl) | (obtain ⟨_, _, _, _, _, _, _, _, _, _, _, _, _, _, _, _, _, rfl, _⟩ := h; rfl) | (obtain ⟨_, _, _, _, _, _, _, _, _, _, _, _, _, _, _, _, _, _, rfl, _⟩ := h; rfl) | (obtain ⟨_, _, _, _, _, _, _, _, _, _, _, _, _, _, _, _, _, _, _, rfl, _⟩ := h; rfl) | (obtain ⟨_, _, _, _, _, _, _, _, _, _, _, _, _, _, _, _, _, _, _, _, rfl, _⟩ := h; rfl) | (obtain ⟨_, _, _, _, _, _, _, _, _, _, _, _, _, _, _, _, _, _, _, _, _, rfl, _⟩ := h; rfl) | (obtain ⟨_, _, _, _, _, _, _, _, _, _, _, _, _, _, _, _, _, _, _, _, _, _, rfl, _⟩ := h; rfl) | (obtain ⟨_, _, _, _, _, _, _, _, _, _, _, _, _, _, _, _, _, _, _, _, _, _, _, rfl, _⟩ := h; rfl) | (obtain ⟨_, _, _, _, _, _, _, _, _, _, _, _, _, _, _, _, _, _, _, _, _, _, _, _, rfl, _⟩ := h; rfl) | (obtain ⟨_, _, _, _, _, _, _, _, _, _, _, _, _, _, _, _, _, _, _, _, _, _, _, _, _, rfl, _⟩ := h; rfl) | (obtain ⟨_, _, _, _, _, _, _, _, _, _, _, _, _, _, _, _, _, _, _, _, _, _, _, _, _, _, rfl, _⟩ := h; rfl) | (obtain ⟨_, _, _, _, _, _, _, _, _, _, _, _, _, _, _, _, _, _, _, _, _, _, _, _, _, _, _, rfl, _⟩ := h; rfl) | (obtain ⟨_, _, _, _, _, _, _, _, _, _, _, _, _, _, _, _, _, _, _, _, _, _, _, _, _, _, _, _, rfl, _⟩ := h; rfl) | (obtain ⟨_, _, _, _, _, _, _, _, _, _, _, _, _, _, _, _, _, _, _, _, _, _, _, _, _, _, _, _, _, rfl, _⟩ := h; rfl) | (obtain ⟨_, _, _, _, _, _, _, _, _, _, _, _, _, _, _, _, _, _, _, _, _, _, _, _, _, _, _, _, _, _, rfl, _⟩ := h; rfl) | (obtain ⟨_, _, _, _, _, _, _, _, _, _, _, _, _, _, _, _, _, _, _, _, _, _, _, _, _, _, _, _, _, _, _, rfl, _⟩ := h; rfl)) (fun A' outer s H vs Q E hr h => ⟨t_read_journal K A (fun cls d _ H => E cls d H), ?_, rd_read_journal T.xc h⟩)
  unfold t_read_journal
  have TB := T.tb
  exact (pss_cons (ps_set (i := 1) sc_read_journal.nd rfl (Or.inl rfl) (pe_lst pa_nil))
  (pss_cons (ps_set (i := 2) sc_read_journal.nd rfl (Or.inl rfl) pe_int)
  (pss_cons (ps_while (passes_of rfl) (m_test (pt_cmpR o_le (pe_op o_add (pn 2) pe_int) (pe_callB c_len (by rfl) T.n_len (by decide +kernel) (pa_cons (pn 0) pa_nil)) (nomark _)))
    (pss_cons (p_if (p_truth (pe_anyI hr (by rfl) T.n_any TB.tb_read_journal rfl ⟨rfl, rfl, by decide +kernel, rfl, rfl, noFree (by decide +kernel)⟩ (pe_slice o_sl (pn 0) (p_some (pn 2)) (p_some (pe_op o_add (pn 2) pe_int))) (elt_rng rfl rfl rfl TB.ns T.m_BYTE.choose_spec) (fun _ => rfl)) (by intro _; rfl))
    (pss_one (p_raiseX rfl (takes_of rfl rfl rfl rfl) T.ox_BadJournal T.of_BadJournal T.oi_BadJournal T.ot_BadJournal (ok_BadJournal___init__ T) (hr.mono (by decide)) T.b_BadJournal___init__ (by rfl) T.m_BadJournal (pa_cons (pn 2) pa_nil)))
    pss_nil)
  (pss_cons (ps_set (i := 3) sc_read_journal.nd rfl (Or.inl rfl) (pe_op o_add (pe_op o_add (pe_op o_add (pn 2) pe_int) (pe_ix ix_seq (pn 0) (pn 2) (fun _ _ => rfl))) (pe_op o_mul (pe_glob (by rfl) T.m_BYTE.choose_spec ⟨_, rfl⟩) (pe_ix ix_seq (pn 0) (pe_op o_add (pn 2) pe_int) (fun _ _ => rfl)))))
  (pss_cons (p_if (m_test (pt_cmpR o_gt (pn 3) (pe_callB c_len (by rfl) T.n_len (by decide +kernel) (pa_cons (pn 0) pa_nil)) (nomark _)))
    (pss_one ps_break)
    pss_nil)
  (p_cut (p_tryX rfl rfl ⟨rfl, by decide, .inl T.m_NoEntry⟩ (fun hd => L2H.passesAt_of rfl hd) (takes_of rfl rfl rfl rfl)
    (fun W pins9 xe9 tk9 tk7 hpo => (pss_one (ps_asg (pe_callS (ok_read_entry T) (hr.mono (by decide)) (by rfl) T.m_read_entry T.F_read_entry.kp T.b_read_entry (fun σ => L2N.passAt tk9 σ) (pa_cons (pe_slice o_sl (pn 0) (p_some (pe_op o_add (pn 2) pe_int)) (p_some (pn 3))) pa_nil)) (pg_tup rfl (p_gcons (pg_name (i := 4) sc_read_journal.nd rfl (Or.inl rfl)) (p_gcons (pg_name (i := 5) sc_read_journal.nd rfl (Or.inl rfl)) p_gnil))))))
    (fun a oe cls d pins9 hz hf tk8 hc9 => (pss_one (p_raiseXH hc9 tk8 T.ox_BadJournal T.of_BadJournal T.oi_BadJournal T.ot_BadJournal (okH_BadJournal___init__ T) (roomH_mk (hr.mono (by decide))) T.b_BadJournal___init__ (by rfl) T.m_BadJournal (pa_cons (pn 2) pa_nil)))))
  (pss_cons (p_if (m_test (pt_cmpR (o_ne hr.units) (pe_cmpR (o_eq hr.units) (pn 4) (pe_glob (by rfl) T.m_START.choose_spec ⟨_, rfl⟩) (nomark _)) (pe_cmpR (o_eq hr.units) (pn 2) pe_int (nomark _)) (nomark _)))
    (pss_one (p_raiseX rfl (takes_of rfl rfl rfl rfl) T.ox_BadJournal T.of_BadJournal T.oi_BadJournal T.ot_BadJournal (ok_BadJournal___init__ T) (hr.mono (by decide)) T.b_BadJournal___init__ (by rfl) T.m_BadJournal (pa_cons (pn 2) pa_nil)))
    pss_nil)
  (pss_cons (ps_expr (pe_bm PySem.F.plainAttrs_list PySem.F.slot_list_append PySem.F.type_list_append mt_append (pn 1) (pa_cons (pe_tup (pa_cons (pn 4) (pa_cons (pn 5) (pa_cons (pn 3) pa_nil)))) pa_nil)))
  (pss_one (ps_set (i := 2) sc_read_journal.nd rfl (Or.inl rfl) (pn 3))))))))))
  (pss_cons (p_if (m_test (pt_cmpR (o_eq hr.units) (pe_callB c_len (by rfl) T.n_len (by decide +kernel) (pa_cons (pn 1) pa_nil)) pe_int (nomark _)))
    (pss_one (p_raiseX rfl (takes_of rfl rfl rfl rfl) T.ox_BadJournal T.of_BadJournal T.oi_BadJournal T.ot_BadJournal (ok_BadJournal___init__ T) (hr.mono (by decide)) T.b_BadJournal___init__ (by rfl) T.m_BadJournal (pa_cons pe_int pa_nil)))
    pss_nil)
  (pss_one (ps_ret (pn 1)))))))
theorem ok__law_cell (T : Top P K mg A W base) : FnOk P w K mg base CX0 1 W.a__law_cell W.d__law_cell ["_law_script", "_law_k"] (sp__law_cell K A) := by
  refine T.F__law_cell.ok sc__law_cell (fun vs H Q E h => by first | (obtain ⟨rfl, _⟩ := h; rfl) | (obtain ⟨_, rfl, _⟩ := h; rfl) | (obtain ⟨_, _, rfl, _⟩ := h; rfl) | (obtain ⟨_, _, _, rfl, _⟩ := h; rfl) | (obtain ⟨_, _, _, _, rfl, _⟩ := h; rfl) | (obtain ⟨_, _, _, _, _, rfl, _⟩ := h; rfl) | (obtain ⟨_, _, _, _, _, _, rfl, _⟩ := h; rfl) | (obtain ⟨_, _, _, _, _, _, _, rfl, _⟩ := h; rfl) | (obtain ⟨_, _, _, _, _, _, _, _, rfl, _⟩ := h; rfl) | (obtain ⟨_, _, _, _, _, _, _, _, _, rfl, _⟩ := h; rfl) | (obtain ⟨_, _, _, _, _, _, _, _, _, _, rfl, _⟩ := h; rfl) | (obtain ⟨_, _, _, _, _, _, _, _, _, _, _, rfl, _⟩ := h; rfl) | (obtain ⟨_, _, _, _, _, _, _, _, _, _, _, _, rfl, _⟩ := h; rfl) | (obtain ⟨_, _, _, _, _, _, _, _, _, _, _, _, _, rfl, _⟩ := h; rfl) | (obtain ⟨_, _, _, _, _, _, _, _, _, _, _, _, _, _, rfl, _⟩ := h; rfl) | (obtain ⟨_, _, _, _, _, _, _, _, _, _, _, _, _, _, _, rfl, _⟩ := h; rfl) | (obtain ⟨_, _, _, _, _, _, _, _, _, _, _, _, _, _, _, _, rfl, _⟩ := h; rfl) | (obtain ⟨_, _, _, _, _, _, _, _, _, _, _, _, _, _, _, _, _, rfl, _⟩ := h; rfl) | (obtain ⟨_, _, _, _, _, _, _, _, _, _, _, _, _, _, _, _, _, _, rfl, _⟩ := h; rfl) | (obtain ⟨_, _, _, _, _, _, _, _, _, _, _, _, _, _, _, _, _, _, _, rfl, _⟩ := h; rfl) | (obtain ⟨_, _, _, _, _, _, _, _, _, _, _, _, _, _, _, _, _, _, _, _, rfl, _⟩ := h; rfl) | (obtain ⟨_, _, _, _, _, _, _, _, _, _, _, _, _, _, _, _, _, _, _, _, _, rfl, _⟩ := h; rfl) | (obtain ⟨_, _, _, _, _, _, _, _, _, _, _, _, _, _, _, _, _, _, _, _, _, _, rfl, _⟩ := h; rfl) | (obtain ⟨_, _, _, _, _, _, _, _, _, _, _, _, _, _, _, _, _, _, _, _, _, _, _, rfl, _⟩ := h; rfl) | (obtain ⟨_, _, _, _, _, _, _, _, _, _, _, _, _, _, _, _, _, _, _, _, _, _, _, _, rfl, _⟩ := h; rfl) | (obtain ⟨_, _, _, _, _, _, _, _, _, _, _, _, _, _, _, _, _, _, _, _, _, _, _, _, _, rfl, _⟩ := h; rfl) | (obtain ⟨_, _, _, _, _, _, _, _, _, _, _, _, _, _, _, _, _, _, _, _, _, _, _, _, _, _, rfl, _⟩ := h; rfl) | (obtain ⟨_, _, _, _, _, _, _, _, _, _, _, _, _, _, _, _, _, _, _, _, _, _, _, _, _, _, _, rfl, _⟩ := h; rfl) | (obtain ⟨_, _, _, _, _, _, _, _, _, _, _, _, _, _, _, _, _, _, _, _, _, _, _, _, _, _, _, _, rfl, _⟩ := h; rfl) | (obtain ⟨_, _, _, _, _, _, _, _, _, _, _, _, _, _, _, _, _, _, _, _, _, _, _, _, _, _, _, _, _, rfl, _⟩ := h; rfl) | (obtain ⟨_, _, _, _, _, _, _, _, _, _, _, _, _, _, _, _, _, _, _, _, _, _, _, _, _, _, _, _, _, _, rfl, _⟩ := h; rfl) | (obtain ⟨_, _, _, _, _, _, _, _, _, _, _, _, _, _, _, _, _, _, _, _, _, _, _, _, _, _, _, _, _, _, _, rfl, _⟩ := h; rfl)) (fun cdv A' outer s H vs Q E hr h => ⟨t__law_cell K A, ?_, rd__law_cell h⟩)
  unfold t__law_cell
  exact (pss_cons (p_if (m_test (pt_cmpR o_lt (pn 1) (pe_callB c_len (by rfl) T.n_len (by decide +kernel) (pa_cons (pn 0) pa_nil)) (nomark _)))
    (pss_one (ps_ret (pe_ix ix_seq (pn 0) (pn 1) (fun _ _ => rfl))))
    pss_nil)
  (pss_one (ps_ret pe_int)))
theorem ok__law_digits (T : Top P K mg A W base) : FnOk P w K mg base CX0 2 W.a__law_digits W.d__law_digits ["_law_script", "_law_first", "_law_last"] (sp__law_digits K A) := by
  refine T.F__law_digits.ok sc__law_digits (fun vs H Q E h => by first | (obtain ⟨rfl, _⟩ := h; rfl) | (obtain ⟨_, rfl, _⟩ := h; rfl) | (obtain ⟨_, _, rfl, _⟩ := h; rfl) | (obtain ⟨_, _, _, rfl, _⟩ := h; rfl) | (obtain ⟨_, _, _, _, rfl, _⟩ := h; rfl) | (obtain ⟨_, _, _, _, _, rfl, _⟩ := h; rfl) | (obtain ⟨_, _, _, _, _, _, rfl, _⟩ := h; rfl) | (obtain ⟨_, _, _, _, _, _, _, rfl, _⟩ := h; rfl) | (obtain ⟨_, _, _, _, _, _, _, _, rfl, _⟩ := h; rfl) | (obtain ⟨_, _, _, _, _, _, _, _, _, rfl, _⟩ := h; rfl) | (obtain ⟨_, _, _, _, _, _, _, _, _, _, rfl, _⟩ := h; rfl) | (obtain ⟨_, _, _, _, _, _, _, _, _, _, _, rfl, _⟩ := h; rfl) | (obtain ⟨_, _, _, _, _, _, _, _, _, _, _, _, rfl, _⟩ := h; rfl) | (obtain ⟨_, _, _, _, _, _, _, _, _, _, _, _, _, rfl, _⟩ := h; rfl) | (obtain ⟨_, _, _, _, _, _, _, _, _, _, _, _, _, _, rfl, _⟩ := h; rfl) | (obtain ⟨_, _, _, _, _, _, _, _, _, _, _, _, _, _, _, rfl, _⟩ := h; rfl) | (obtain ⟨_, _, _, _, _, _, _, _, _, _, _, _, _, _, _, _, rfl, _⟩ := h; rfl) | (obtain ⟨_, _, _, _, _, _, _, _, _, _, _, _, _, _, _, _, _, rfl, _⟩ := h; rfl) | (obtain ⟨_, _, _, _, _, _, _, _, _, _, _, _, _, _, _, _, _, _, rfl, _⟩ := h; rfl) | (obtain ⟨_, _, _, _, _, _, _, _, _, _, _, _, _, _, _, _, _, _, _, rfl, _⟩ := h; rfl) | (obtain ⟨_, _, _, _, _, _, _, _, _, _, _, _, _, _, _, _, _, _, _, _, rfl, _⟩ := h; rfl) | (obtain ⟨_, _, _, _, _, _, _, _, _, _, _, _, _, _, _, _, _, _, _, _, _, rfl, _⟩ := h; rfl) | (obtain ⟨_, _, _, _, _, _, _, _, _, _, _, _, _, _, _, _, _, _, _, _, _, _, rfl, _⟩ := h; rfl) | (obtain ⟨_, _, _, _, _, _, _, _, _, _, _, _, _, _, _, _, _, _, _, _, _, _, _, rfl, _⟩ := h; rfl) | (obtain ⟨_, _, _, _, _, _, _, _, _, _, _, _, _, _, _, _, _, _, _, _, _, _, _, _, rfl, _⟩ := h; rfl) | (obtain ⟨_, _, _, _, _, _, _, _, _, _, _, _, _, _, _, _, _, _, _, _, _, _, _, _, _, rfl, _⟩ := h; rfl) | (obtain ⟨_, _, _, _, _, _, _, _, _, _, _, _, _, _, _, _, _, _, _, _, _, _, _, _, _, _, rfl, _⟩ := h; rfl) | (obtain ⟨_, _, _, _, _, _, _, _, _, _, _, _, _, _, _, _, _, _, _, _, _, _, _, _, _, _, _, rfl, _⟩ := h; rfl) | (obtain ⟨_, _, _, _, _, _, _, _, _, _, _, _, _, _, _, _, _, _, _, _, _, _, _, _, _, _, _, _, rfl, _⟩ := h; rfl) | (obtain ⟨_, _, _, _, _, _, _, _, _, _, _, _, _, _, _, _, _, _, _, _, _, _, _, _, _, _, _, _, _, rfl, _⟩ := h; rfl) | (obtain ⟨_, _, _, _, _, _, _, _, _, _, _, _, _, _, _, _, _, _, _, _, _, _, _, _, _, _, _, _, _, _, rfl, _⟩ := h; rfl) | (obtain ⟨_, _, _, _, _, _, _, _, _, _, _, _, _, _, _, _, _, _, _, _, _, _, _, _, _, _, _, _, _, _, _, rfl, _⟩ := h; rfl)) (fun cdv A' outer s H vs Q E hr h => ⟨t__law_digits K A, ?_, rd__law_digits h⟩)
  unfold t__law_digits
  exact (pss_cons (ps_set (i := 3) sc__law_digits.nd rfl (Or.inl rfl) (pe_lst pa_nil))
  (pss_cons (ps_for PassesOwn.never rfl (i_rng2 (pi_range2 (by rfl) T.n_range (pa_cons (pn 1) (pa_cons (pn 2) pa_nil)))) (pg_name (i := 4) sc__law_digits.nd rfl (Or.inl rfl))
    (pss_cons (ps_set (i := 5) sc__law_digits.nd rfl (Or.inl rfl) (pe_call (ok__law_cell T) (hr.mono (by decide)) (by rfl) T.m__law_cell T.F__law_cell.kp T.b__law_cell .nil pass0 (pa_cons (pn 0) (pa_cons (pn 4) pa_nil))))
  (p_cut (p_if (m_test (pt_cmpR o_lt (pn 5) pe_int (nomark _)))
    (pss_one (ps_set (i := 5) sc__law_digits.nd rfl (Or.inl rfl) (pe_op o_sub pe_int (pe_op o_mul pe_int (pn 5)))))
    pss_nil)
  (pss_one (p_if (m_test (pt_cmpR o_ge (pn 5) (pe_op o_pow pe_int pe_int) (nomark _)))
    (pss_one (ps_for PassesOwn.never rfl (i_rng1 (pi_range1 (by rfl) T.n_range (pa_cons pe_int pa_nil))) (pg_name (i := 6) sc__law_digits.nd rfl (Or.inl rfl))
    (pss_one (p_if (m_test (pt_cmpR o_gt (pn 5) pe_int (nomark _)))
    (pss_cons (ps_expr (pe_bm PySem.F.plainAttrs_list PySem.F.slot_list_append PySem.F.type_list_append mt_append (pn 3) (pa_cons (pe_op o_mod (pe_callTy c_int (by rfl) T.n_int (by decide +kernel) (pa_cons (pn 5) pa_nil)) pe_int) pa_nil)))
  (pss_one (ps_set (i := 5) sc__law_digits.nd rfl (Or.inl rfl) (pe_op o_fdiv (pn 5) pe_int))))
    pss_nil))))
    (pss_cons (ps_set (i := 7) sc__law_digits.nd rfl (Or.inl rfl) (pe_op o_mod (pe_callTy c_int (by rfl) T.n_int (by decide +kernel) (pa_cons (pe_op o_add (pe_op o_add (pe_op o_mul (pn 5) pe_int) (pe_op o_mul (pn 4) pe_int)) pe_int) pa_nil)) pe_int))
  (pss_one (ps_for PassesOwn.never rfl (i_rng1 (pi_range1 (by rfl) T.n_range (pa_cons pe_int pa_nil))) (pg_name (i := 6) sc__law_digits.nd rfl (Or.inl rfl))
    (pss_cons (ps_set (i := 7) sc__law_digits.nd rfl (Or.inl rfl) (pe_op o_mod (pe_callTy c_int (by rfl) T.n_int (by decide +kernel) (pa_cons (pe_op o_add (pe_op o_add (pe_op o_mul (pn 7) pe_int) (pe_op o_mul pe_int (pn 6))) pe_int) pa_nil)) pe_int))
  (pss_one (ps_expr (pe_bm PySem.F.plainAttrs_list PySem.F.slot_list_append PySem.F.type_list_append mt_append (pn 3) (pa_cons (pe_op o_mod (pe_callTy c_int (by rfl) T.n_int (by decide +kernel) (pa_cons (pe_op o_fdiv (pn 7) pe_int) pa_nil)) pe_int) pa_nil)))))))))))))
  (pss_one (ps_ret (pn 3)))))
theorem ok__law_draw (T : Top P K mg A W base) : FnOk P w K mg base CX0 1 W.a__law_draw W.d__law_draw ["_law_box", "_law_many"] (sp__law_draw K A) := by
  refine T.F__law_draw.ok sc__law_draw (fun vs H Q E h => by first | (obtain ⟨rfl, _⟩ := h; rfl) | (obtain ⟨_, rfl, _⟩ := h; rfl) | (obtain ⟨_, _, rfl, _⟩ := h; rfl) | (obtain ⟨_, _, _, rfl, _⟩ := h; rfl) | (obtain ⟨_, _, _, _, rfl, _⟩ := h; rfl) | (obtain ⟨_, _, _, _, _, rfl, _⟩ := h; rfl) | (obtain ⟨_, _, _, _, _, _, rfl, _⟩ := h; rfl) | (obtain ⟨_, _, _, _, _, _, _, rfl, _⟩ := h; rfl) | (obtain ⟨_, _, _, _, _, _, _, _, rfl, _⟩ := h; rfl) | (obtain ⟨_, _, _, _, _, _, _, _, _, rfl, _⟩ := h; rfl) | (obtain ⟨_, _, _, _, _, _, _, _, _, _, rfl, _⟩ := h; rfl) | (obtain ⟨_, _, _, _, _, _, _, _, _, _, _, rfl, _⟩ := h; rfl) | (obtain ⟨_, _, _, _, _, _, _, _, _, _, _, _, rfl, _⟩ := h; rfl) | (obtain ⟨_, _, _, _, _, _, _, _, _, _, _, _, _, rfl, _⟩ := h; rfl) | (obtain ⟨_, _, _, _, _, _, _, _, _, _, _, _, _, _, rfl, _⟩ := h; rfl) | (obtain ⟨_, _, _, _, _, _, _, _, _, _, _, _, _, _, _, rfl, _⟩ := h; rfl) | (obtain ⟨_, _, _, _, _, _, _, _, _, _, _, _, _, _, _, _, rfl, _⟩ := h; rfl) | (obtain ⟨_, _, _, _, _, _, _, _, _, _, _, _, _, _, _, _, _, rfl, _⟩ := h; rfl) | (obtain ⟨_, _, _, _, _, _, _, _, _, _, _, _, _, _, _, _, _, _, rfl, _⟩ := h; rfl) | (obtain ⟨_, _, _, _, _, _, _, _, _, _, _, _, _, _, _, _, _, _, _, rfl, _⟩ := h; rfl) | (obtain ⟨_, _, _, _, _, _, _, _, _, _, _, _, _, _, _, _, _, _, _, _, rfl, _⟩ := h; rfl) | (obtain ⟨_, _, _, _, _, _, _, _, _, _, _, _, _, _, _, _, _, _, _, _, _, rfl, _⟩ := h; rfl) | (obtain ⟨_, _, _, _, _, _, _, _, _, _, _, _, _, _, _, _, _, _, _, _, _, _, rfl, _⟩ := h; rfl) | (obtain ⟨_, _, _, _, _, _, _, _, _, _, _, _, _, _, _, _, _, _, _, _, _, _, _, rfl, _⟩ := h; rfl) | (obtain ⟨_, _, _, _, _, _, _, _, _, _, _, _, _, _, _, _, _, _, _, _, _, _, _, _, rfl, _⟩ := h; rfl) | (obtain ⟨_, _, _, _, _, _, _, _, _, _, _, _, _, _, _, _, _, _, _, _, _, _, _, _, _, rfl, _⟩ := h; rfl) | (obtain ⟨_, _, _, _, _, _, _, _, _, _, _, _, _, _, _, _, _, _, _, _, _, _, _, _, _, _, rfl, _⟩ := h; rfl) | (obtain ⟨_, _, _, _, _, _, _, _, _, _, _, _, _, _, _, _, _, _, _, _, _, _, _, _, _, _, _, rfl, _⟩ := h; rfl) | (obtain ⟨_, _, _, _, _, _, _, _, _, _, _, _, _, _, _, _, _, _, _, _, _, _, _, _, _, _, _, _, rfl, _⟩ := h; rfl) | (obtain ⟨_, _, _, _, _, _, _, _, _, _, _, _, _, _, _, _, _, _, _, _, _, _, _, _, _, _, _, _, _, rfl, _⟩ := h; rfl) | (obtain ⟨_, _, _, _, _, _, _, _, _, _, _, _, _, _, _, _, _, _, _, _, _, _, _, _, _, _, _, _, _, _, rfl, _⟩ := h; rfl) | (obtain ⟨_, _, _, _, _, _, _, _, _, _, _, _, _, _, _, _, _, _, _, _, _, _, _, _, _, _, _, _, _, _, _, rfl, _⟩ := h; rfl)) (fun cdv A' outer s H vs Q E hr h => ⟨t__law_draw K A, ?_, rd__law_draw h⟩)
  unfold t__law_draw
  exact (pss_cons (ps_set (i := 2) sc__law_draw.nd rfl (Or.inl rfl) (pe_ix ix_seq (pn 0) pe_int (fun _ _ => rfl)))
  (pss_cons (ps_asg (pe_op o_add (pn 2) pe_int) (pg_sub (pn 0) pe_int set_list))
  (pss_cons (p_if (m_test (pt_cmpR o_lt (pn 2) (pe_callB c_len (by rfl) T.n_len (by decide +kernel) (pa_cons (pe_ix ix_seq (pn 0) pe_int (fun _ _ => rfl)) pa_nil)) (nomark _)))
    (pss_one (ps_ret (pe_op o_mod (pe_callTy c_int (by rfl) T.n_int (by decide +kernel) (pa_cons (pe_ix ix_seq (pe_ix ix_seq (pn 0) pe_int (fun _ _ => rfl)) (pn 2) (fun _ _ => rfl)) pa_nil)) (pn 1))))
    pss_nil)
  (pss_one (ps_ret (pe_op o_mod (pe_callTy c_int (by rfl) T.n_int (by decide +kernel) (pa_cons (pe_op o_add (pe_op o_mul (pn 2) pe_int) pe_int) pa_nil)) (pn 1)))))))
theorem ok__law_read (T : Top P K mg A W base) : FnOk P w K mg base CX0 7 W.a__law_read W.d__law_read ["_law_numbers"] (sp__law_read K A) := by
  refine T.F__law_read.ok sc__law_read (fun vs H Q E h => by first | (obtain ⟨rfl, _⟩ := h; rfl) | (obtain ⟨_, rfl, _⟩ := h; rfl) | (obtain ⟨_, _, rfl, _⟩ := h; rfl) | (obtain ⟨_, _, _, rfl, _⟩ := h; rfl) | (obtain ⟨_, _, _, _, rfl, _⟩ := h; rfl) | (obtain ⟨_, _, _, _, _, rfl, _⟩ := h; rfl) | (obtain ⟨_, _, _, _, _, _, rfl, _⟩ := h; rfl) | (obtain ⟨_, _, _, _, _, _, _, rfl, _⟩ := h; rfl) | (obtain ⟨_, _, _, _, _, _, _, _, rfl, _⟩ := h; rfl) | (obtain ⟨_, _, _, _, _, _, _, _, _, rfl, _⟩ := h; rfl) | (obtain ⟨_, _, _, _, _, _, _, _, _, _, rfl, _⟩ := h; rfl) | (obtain ⟨_, _, _, _, _, _, _, _, _, _, _, rfl, _⟩ := h; rfl) | (obtain ⟨_, _, _, _, _, _, _, _, _, _, _, _, rfl, _⟩ := h; rfl) | (obtain ⟨_, _, _, _, _, _, _, _, _, _, _, _, _, rfl, _⟩ := h; rfl) | (obtain ⟨_, _, _, _, _, _, _, _, _, _, _, _, _, _, rfl, _⟩ := h; rfl) | (obtain ⟨_, _, _, _, _, _, _, _, _, _, _, _, _, _, _, rfl, _⟩ := h; rfl) | (obtain ⟨_, _, _, _, _, _, _, _, _, _, _, _, _, _, _, _, rfl, _⟩ := h; rfl) | (obtain ⟨_, _, _, _, _, _, _, _, _, _, _, _, _, _, _, _, _, rfl, _⟩ := h; rfl) | (obtain ⟨_, _, _, _, _, _, _, _, _, _, _, _, _, _, _, _, _, _, rfl, _⟩ := h; rfl) | (obtain ⟨_, _, _, _, _, _, _, _, _, _, _, _, _, _, _, _, _, _, _, rfl, _⟩ := h; rfl) | (obtain ⟨_, _, _, _, _, _, _, _, _, _, _, _, _, _, _, _, _, _, _, _, rfl, _⟩ := h; rfl) | (obtain ⟨_, _, _, _, _, _, _, _, _, _, _, _, _, _, _, _, _, _, _, _, _, rfl, _⟩ := h; rfl) | (obtain ⟨_, _, _, _, _, _, _, _, _, _, _, _, _, _, _, _, _, _, _, _, _, _, rfl, _⟩ := h; rfl) | (obtain ⟨_, _, _, _, _, _, _, _, _, _, _, _, _, _, _, _, _, _, _, _, _, _, _, rfl, _⟩ := h; rfl) | (obtain ⟨_, _, _, _, _, _, _, _, _, _, _, _, _, _, _, _, _, _, _, _, _, _, _, _, rfl, _⟩ := h; rfl) | (obtain ⟨_, _, _, _, _, _, _, _, _, _, _, _, _, _, _, _, _, _, _, _, _, _, _, _, _, rfl, _⟩ := h; rfl) | (obtain ⟨_, _, _, _, _, _, _, _, _, _, _, _, _, _, _, _, _, _, _, _, _, _, _, _, _, _, rfl, _⟩ := h; rfl) | (obtain ⟨_, _, _, _, _, _, _, _, _, _, _, _, _, _, _, _, _, _, _, _, _, _, _, _, _, _, _, rfl, _⟩ := h; rfl) | (obtain ⟨_, _, _, _, _, _, _, _, _, _, _, _, _, _, _, _, _, _, _, _, _, _, _, _, _, _, _, _, rfl, _⟩ := h; rfl) | (obtain ⟨_, _, _, _, _, _, _, _, _, _, _, _, _, _, _, _, _, _, _, _, _, _, _, _, _, _, _, _, _, rfl, _⟩ := h; rfl) | (obtain ⟨_, _, _, _, _, _, _, _, _, _, _, _, _, _, _, _, _, _, _, _, _, _, _, _, _, _, _, _, _, _, rfl, _⟩ := h; rfl) | (obtain ⟨_, _, _, _, _, _, _, _, _, _, _, _, _, _, _, _, _, _, _, _, _, _, _, _, _, _, _, _, _, _, _, rfl, _⟩ := h; rfl)) (fun cdv A' outer s H vs Q E hr h => ⟨t__law_read K A, ?_, rd__law_read T.xc h⟩)
  unfold t__law_read
  have C := T.xc
  exact (p_cut (p_tryAs (i := 1) rfl rfl sc__law_read.nd rfl rfl ⟨rfl, by decide, .inl T.m_RecordError⟩ takesNo
    (fun W pins9 xe9 tk hpo => (pss_one (ps_expr (pe_callS (ok_read_journal T) (hr.mono (by decide)) (by rfl) T.m_read_journal T.F_read_journal.kp T.b_read_journal (fun σ => passAt tk σ) (pa_cons (pn 0) pa_nil)))))
    (fun a oe cls d pins9 hz hf => (pss_cons (p_if (PW.pt (pw_and (p_truth (pe_callB (call_isY hz hf) (by rfl) T.n_isinstance (by decide +kernel) (pa_cons (pn 1) (pa_cons (pe_glob (by rfl) T.m_BadJournal rfl) pa_nil))) (by intro _; rfl)) (pw_and1 (p_truth (pe_callB (call_isY hz hf) (by rfl) T.n_isinstance (by decide +kernel) (pa_cons (pn 1) (pa_cons (pe_bltn (by rfl) T.n_ValueError (by decide +kernel) rfl) pa_nil))) (by intro _; rfl)))))
    (pss_one (ps_ret (pe_xf (xfC_of C.ex_BadJournal) (T.of_BadJournal _ (by simp)) hz hf (pn 1))))
    pss_nil)
  (pss_one (ps_ret (pe_un o_neg pe_int))))))
  (pss_one (ps_ret (pe_un o_neg pe_int))))
theorem ok_law (T : Top P K mg A W base) : FnG P w K mg base 8 W.a_law W.d_law ["_law_script"] (sp_law K A) := by
  refine okG T.F_law sc_law (fun vs H Q E h => by first | (obtain ⟨rfl, _⟩ := h; rfl) | (obtain ⟨_, rfl, _⟩ := h; rfl) | (obtain ⟨_, _, rfl, _⟩ := h; rfl) | (obtain ⟨_, _, _, rfl, _⟩ := h; rfl) | (obtain ⟨_, _, _, _, rfl, _⟩ := h; rfl) | (obtain ⟨_, _, _, _, _, rfl, _⟩ := h; rfl) | (obtain ⟨_, _, _, _, _, _, rfl, _⟩ := h; rfl) | (obtain ⟨_, _, _, _, _, _, _, rfl, _⟩ := h; rfl) | (obtain ⟨_, _, _, _, _, _, _, _, rfl, _⟩ := h; rfl) | (obtain ⟨_, _, _, _, _, _, _, _, _, rfl, _⟩ := h; rfl) | (obtain ⟨_, _, _, _, _, _, _, _, _, _, rfl, _⟩ := h; rfl) | (obtain ⟨_, _, _, _, _, _, _, _, _, _, _, rfl, _⟩ := h; rfl) | (obtain ⟨_, _, _, _, _, _, _, _, _, _, _, _, rfl, _⟩ := h; rfl) | (obtain ⟨_, _, _, _, _, _, _, _, _, _, _, _, _, rfl, _⟩ := h; rfl) | (obtain ⟨_, _, _, _, _, _, _, _, _, _, _, _, _, _, rfl, _⟩ := h; rfl) | (obtain ⟨_, _, _, _, _, _, _, _, _, _, _, _, _, _, _, rfl, _⟩ := h; rfl) | (obtain ⟨_, _, _, _, _, _, _, _, _, _, _, _, _, _, _, _, rfl, _⟩ := h; rfl) | (obtain ⟨_, _, _, _, _, _, _, _, _, _, _, _, _, _, _, _, _, rfl, _⟩ := h; rfl) | (obtain ⟨_, _, _, _, _, _, _, _, _, _, _, _, _, _, _, _, _, _, rfl, _⟩ := h; rfl) | (obtain ⟨_, _, _, _, _, _, _, _, _, _, _, _, _, _, _, _, _, _, _, rfl, _⟩ := h; rfl) | (obtain ⟨_, _, _, _, _, _, _, _, _, _, _, _, _, _, _, _, _, _, _, _, rfl, _⟩ := h; rfl) | (obtain ⟨_, _, _, _, _, _, _, _, _, _, _, _, _, _, _, _, _, _, _, _, _, rfl, _⟩ := h; rfl) | (obtain ⟨_, _, _, _, _, _, _, _, _, _, _, _, _, _, _, _, _, _, _, _, _, _, rfl, _⟩ := h; rfl) | (obtain ⟨_, _, _, _, _, _, _, _, _, _, _, _, _, _, _, _, _, _, _, _, _, _, _, rfl, _⟩ := h; rfl) | (obtain ⟨_, _, _, _, _, _, _, _, _, _, _, _, _, _, _, _, _, _, _, _, _, _, _, _, rfl, _⟩ := h; rfl) | (obtain ⟨_, _, _, _, _, _, _, _, _, _, _, _, _, _, _, _, _, _, _, _, _, _, _, _, _, rfl, _⟩ := h; rfl) | (obtain ⟨_, _, _, _, _, _, _, _, _, _, _, _, _, _, _, _, _, _, _, _, _, _, _, _, _, _, rfl, _⟩ := h; rfl) | (obtain ⟨_, _, _, _, _, _, _, _, _, _, _, _, _, _, _, _, _, _, _, _, _, _, _, _, _, _, _, rfl, _⟩ := h; rfl) | (obtain ⟨_, _, _, _, _, _, _, _, _, _, _, _, _, _, _, _, _, _, _, _, _, _, _, _, _, _, _, _, rfl, _⟩ := h; rfl) | (obtain ⟨_, _, _, _, _, _, _, _, _, _, _, _, _, _, _, _, _, _, _, _, _, _, _, _, _, _, _, _, _, rfl, _⟩ := h; rfl) | (obtain ⟨_, _, _, _, _, _, _, _, _, _, _, _, _, _, _, _, _, _, _, _, _, _, _, _, _, _, _, _, _, _, rfl, _⟩ := h; rfl) | (obtain ⟨_, _, _, _, _, _, _, _, _, _, _, _, _, _, _, _, _, _, _, _, _, _, _, _, _, _, _, _, _, _, _, rfl, _⟩ := h; rfl)) (fun cdv A' outer s H vs Q E hr hg h => ⟨t_law K A, ?_, rd_law h⟩)
  unfold t_law
  exact (pss_cons (ps_set (i := 1) sc_law.nd rfl (Or.inl rfl) (pe_lst (pa_cons (pe_call (ok__law_digits T) (hr.mono (by decide)) (by rfl) T.m__law_digits T.F__law_digits.kp T.b__law_digits .nil pass0 (pa_cons (pn 0) (pa_cons pe_int (pa_cons pe_int pa_nil)))) (pa_cons pe_int pa_nil))))
  (pss_cons (ps_set (i := 2) sc_law.nd rfl (Or.inl rfl) (pe_call (ok_write_entry T) (hr.mono (by decide)) (by rfl) T.m_write_entry T.F_write_entry.kp T.b_write_entry .nil pass0 (pa_cons pe_str (pa_cons (pe_tup (pa_cons pe_int (pa_cons pe_str pa_nil))) pa_nil))))
  (pss_cons (ps_set (i := 3) sc_law.nd rfl (Or.inl rfl) (pe_callTy c_list (by rfl) T.n_list (by decide +kernel) (pa_cons (pn 2) pa_nil)))
  (pss_cons (ps_set (i := 4) sc_law.nd rfl (Or.inl rfl) (pe_lst (pa_cons (pe_call (ok_write_entry T) (hr.mono (by decide)) (by rfl) T.m_write_entry T.F_write_entry.kp T.b_write_entry .nil pass0 (pa_cons pe_str (pa_cons (pe_tup pa_nil) pa_nil))) (pa_cons (pe_call (ok_write_entry T) (hr.mono (by decide)) (by rfl) T.m_write_entry T.F_write_entry.kp T.b_write_entry .nil pass0 (pa_cons pe_str (pa_cons (pe_tup (pa_cons pe_int pa_nil)) pa_nil))) (pa_cons (pe_call (ok_write_entry T) (hr.mono (by decide)) (by rfl) T.m_write_entry T.F_write_entry.kp T.b_write_entry .nil pass0 (pa_cons pe_str (pa_cons (pe_tup (pa_cons pe_int (pa_cons pe_str (pa_cons pe_non pa_nil)))) pa_nil))) (pa_cons (pe_call (ok_write_entry T) (hr.mono (by decide)) (by rfl) T.m_write_entry T.F_write_entry.kp T.b_write_entry .nil pass0 (pa_cons pe_str (pa_cons (pe_tup pa_nil) pa_nil))) pa_nil))))))
  (pss_cons (ps_for PassesOwn.never rfl (i_rng1 (pi_range1 (by rfl) T.n_range (pa_cons (pe_call (ok__law_draw T) (hr.mono (by decide)) (by rfl) T.m__law_draw T.F__law_draw.kp T.b__law_draw .nil pass0 (pa_cons (pn 1) (pa_cons pe_int pa_nil))) pa_nil))) (pg_name (i := 5) sc_law.nd rfl (Or.inl rfl))
    (pss_one (ps_set (i := 3) sc_law.nd rfl (Or.inl rfl) (pe_op o_add (pn 3) (pe_ix ix_seq (pn 4) (pe_call (ok__law_draw T) (hr.mono (by decide)) (by rfl) T.m__law_draw T.F__law_draw.kp T.b__law_draw .nil pass0 (pa_cons (pn 1) (pa_cons pe_int pa_nil))) (fun _ _ => rfl))))))
  (pss_cons (p_if (PW.pt (pw_or (m_test (pt_cmpR (o_ne hr.units) (pe_call (ok__law_read T) (hr.mono (by decide)) (by rfl) T.m__law_read T.F__law_read.kp T.b__law_read .nil pass0 (pa_cons (pn 3) pa_nil)) (pe_un o_neg pe_int) (nomark _))) (pw_or (m_test (pt_cmpR (o_ne hr.units) (pe_call (ok__law_read T) (hr.mono (by decide)) (by rfl) T.m__law_read T.F__law_read.kp T.b__law_read .nil pass0 (pa_cons (pe_op o_add (pe_ix ix_seq (pn 4) (pe_call (ok__law_draw T) (hr.mono (by decide)) (by rfl) T.m__law_draw T.F__law_draw.kp T.b__law_draw .nil pass0 (pa_cons (pn 1) (pa_cons pe_int pa_nil))) (fun _ _ => rfl)) (pn 3)) pa_nil)) pe_int (nomark _))) (pw_or1 (m_test (pt_cmpR (o_ne hr.units) (pe_call (ok__law_read T) (hr.mono (by decide)) (by rfl) T.m__law_read T.F__law_read.kp T.b__law_read .nil pass0 (pa_cons (pe_lst pa_nil) pa_nil)) pe_int (nomark _)))))))
    (pss_one (ps_ret pe_bl))
    pss_nil)
  (pss_cons (ps_set (i := 6) sc_law.nd rfl (Or.inl rfl) (pe_lst (pa_cons (pn 2) (pa_cons (pe_lst (pa_cons pe_int (pa_cons pe_int (pa_cons pe_int pa_nil)))) (pa_cons (pe_lst (pa_cons pe_int (pa_cons pe_int (pa_cons pe_int pa_nil)))) (pa_cons (pe_lst (pa_cons pe_int (pa_cons pe_int pa_nil))) (pa_cons (pe_lst (pa_cons pe_int (pa_cons pe_int (pa_cons pe_int (pa_cons pe_int pa_nil))))) (pa_cons (pe_lst (pa_cons pe_int (pa_cons pe_int (pa_cons pe_int (pa_cons pe_int (pa_cons pe_int (pa_cons pe_int (pa_cons pe_int pa_nil)))))))) (pa_cons (pe_lst (pa_cons pe_int (pa_cons pe_int (pa_cons pe_int (pa_cons pe_int (pa_cons pe_int (pa_cons pe_int (pa_cons pe_int (pa_cons pe_int (pa_cons pe_int pa_nil)))))))))) (pa_cons (pe_lst (pa_cons pe_int (pa_cons pe_int (pa_cons pe_int (pa_cons pe_int (pa_cons pe_int (pa_cons pe_int (pa_cons pe_int (pa_cons pe_int pa_nil))))))))) pa_nil))))))))))
  (pss_cons (ps_set (i := 6) sc_law.nd rfl (Or.inl rfl) (pe_op o_add (pn 6) (pe_lst (pa_cons (pe_lst (pa_cons pe_int (pa_cons pe_int (pa_cons pe_int pa_nil)))) (pa_cons (pe_lst (pa_cons pe_int (pa_cons pe_int (pa_cons pe_int (pa_cons pe_int (pa_cons pe_int (pa_cons pe_int (pa_cons pe_int (pa_cons pe_int pa_nil))))))))) (pa_cons (pe_lst (pa_cons pe_int (pa_cons pe_int (pa_cons pe_int (pa_cons pe_int (pa_cons pe_int (pa_cons pe_int (pa_cons pe_int (pa_cons pe_int (pa_cons pe_int (pa_cons pe_int pa_nil))))))))))) (pa_cons (pe_lst (pa_cons pe_int (pa_cons pe_int (pa_cons pe_int pa_nil)))) pa_nil)))))))
  (pss_cons (ps_set (i := 7) sc_law.nd rfl (Or.inl rfl) (pe_callB c_len (by rfl) T.n_len (by decide +kernel) (pa_cons (pn 3) pa_nil)))
  (pss_one (ps_ret (pe_cmpR (o_eq hr.units) (pe_call (ok__law_read T) (hr.mono (by decide)) (by rfl) T.m__law_read T.F__law_read.kp T.b__law_read .nil pass0 (pa_cons (pe_op o_add (pe_op o_add (pn 3) (pe_ix ix_seq (pn 6) (pe_call (ok__law_draw T) (hr.mono (by decide)) (by rfl) T.m__law_draw T.F__law_draw.kp T.b__law_draw .nil pass0 (pa_cons (pn 1) (pa_cons pe_int pa_nil))) (fun _ _ => rfl))) (pe_ix ix_seq (pn 4) (pe_call (ok__law_draw T) (hr.mono (by decide)) (by rfl) T.m__law_draw T.F__law_draw.kp T.b__law_draw .nil pass0 (pa_cons (pn 1) (pa_cons pe_int pa_nil))) (fun _ _ => rfl))) pa_nil)) (pn 7) (nomark _)))))))))))))
end
theorem all_mk {l : PySem.W.OpenLaw} {w : World} {K : PySem.W.Frag} {h : Heap} {mg : Str → Option Value} {fa : Addr} (X : K.In h) (G : h.Ns mainGlobals mg) (hfa : mg "law" = some (.ref fa))
    {C_BadJournal C_NoEntry C_Reading C_RecordError : Addr}
    {f0 c0A cc0A : Addr} {od0 an0 : Option Addr} {sl0 : Array (Option Value)} {oc0 kV0 dc0 pm0 ct0 : Value}
    (a0 : PySem.W.findIn K (.ref C_BadJournal) "__init__" = some (some (.ref f0)))
    (l0 : K.lookup f0 = some ⟨oc0, od0, .func (PySem.W.fnX "__init__" "BadJournal.__init__" (defArgs s_BadJournal___init__) (defBody s_BadJournal___init__) (defScope s_BadJournal___init__) [("__class__", cc0A)] .none kV0 dc0 pm0 an0 (.ref c0A) ct0), sl0⟩) (c0 : PySem.W.codeIn K (.ref c0A) "BadJournal.__init__" = true)
    {f1 : Addr} {od1 an1 : Option Addr} {sl1 : Array (Option Value)} {oc1 kV1 dc1 pm1 cd1 ct1 : Value}
    (a1 : PySem.W.nsIn K mainGlobals "two_numbers" = some (some (.ref f1))) (l1 : K.lookup f1 = some ⟨oc1, od1, .func (PySem.W.fnOf "two_numbers" "two_numbers" (defArgs s_two_numbers) (defBody s_two_numbers) (defScope s_two_numbers) .none kV1 dc1 pm1 an1 cd1 ct1), sl1⟩) (c1 : PySem.W.codeIn K cd1 "two_numbers" = true) (k1 : PySem.W.keepIn K (.ref f1) = true)
    {f2 : Addr} {od2 an2 : Option Addr} {sl2 : Array (Option Value)} {oc2 kV2 dc2 pm2 cd2 ct2 : Value}
    (a2 : PySem.W.nsIn K mainGlobals "write_integer" = some (some (.ref f2))) (l2 : K.lookup f2 = some ⟨oc2, od2, .func (PySem.W.fnOf "write_integer" "write_integer" (defArgs s_write_integer) (defBody s_write_integer) (defScope s_write_integer) .none kV2 dc2 pm2 an2 cd2 ct2), sl2⟩) (c2 : PySem.W.codeIn K cd2 "write_integer" = true) (k2 : PySem.W.keepIn K (.ref f2) = true)
    {f3 : Addr} {od3 an3 : Option Addr} {sl3 : Array (Option Value)} {oc3 kV3 dc3 pm3 cd3 ct3 : Value}
    (a3 : PySem.W.nsIn K mainGlobals "write_characters" = some (some (.ref f3))) (l3 : K.lookup f3 = some ⟨oc3, od3, .func (PySem.W.fnOf "write_characters" "write_characters" (defArgs s_write_characters) (defBody s_write_characters) (defScope s_write_characters) .none kV3 dc3 pm3 an3 cd3 ct3), sl3⟩) (c3 : PySem.W.codeIn K cd3 "write_characters" = true) (k3 : PySem.W.keepIn K (.ref f3) = true)
    {f4 : Addr} {od4 an4 : Option Addr} {sl4 : Array (Option Value)} {oc4 kV4 dc4 pm4 cd4 ct4 : Value}
    (a4 : PySem.W.nsIn K mainGlobals "write_argument" = some (some (.ref f4))) (l4 : K.lookup f4 = some ⟨oc4, od4, .func (PySem.W.fnOf "write_argument" "write_argument" (defArgs s_write_argument) (defBody s_write_argument) (defScope s_write_argument) .none kV4 dc4 pm4 an4 cd4 ct4), sl4⟩) (c4 : PySem.W.codeIn K cd4 "write_argument" = true) (k4 : PySem.W.keepIn K (.ref f4) = true)
    {f5 : Addr} {od5 an5 : Option Addr} {sl5 : Array (Option Value)} {oc5 kV5 dc5 pm5 cd5 ct5 : Value}
    (a5 : PySem.W.nsIn K mainGlobals "write_content" = some (some (.ref f5))) (l5 : K.lookup f5 = some ⟨oc5, od5, .func (PySem.W.fnOf "write_content" "write_content" (defArgs s_write_content) (defBody s_write_content) (defScope s_write_content) .none kV5 dc5 pm5 an5 cd5 ct5), sl5⟩) (c5 : PySem.W.codeIn K cd5 "write_content" = true) (k5 : PySem.W.keepIn K (.ref f5) = true)
    {f6 : Addr} {od6 an6 : Option Addr} {sl6 : Array (Option Value)} {oc6 kV6 dc6 pm6 cd6 ct6 : Value}
    (a6 : PySem.W.nsIn K mainGlobals "write_entry" = some (some (.ref f6))) (l6 : K.lookup f6 = some ⟨oc6, od6, .func (PySem.W.fnOf "write_entry" "write_entry" (defArgs s_write_entry) (defBody s_write_entry) (defScope s_write_entry) .none kV6 dc6 pm6 an6 cd6 ct6), sl6⟩) (c6 : PySem.W.codeIn K cd6 "write_entry" = true) (k6 : PySem.W.keepIn K (.ref f6) = true)
    {f7 : Addr} {od7 an7 : Option Addr} {sl7 : Array (Option Value)} {oc7 kV7 dc7 pm7 cd7 ct7 : Value}
    (a7 : PySem.W.findIn K (.ref C_Reading) "__init__" = some (some (.ref f7))) (v7 : PySem.W.isFn K (.ref f7) = true) (l7 : K.lookup f7 = some ⟨oc7, od7, .func (PySem.W.fnOf "__init__" "Reading.__init__" (defArgs s_Reading___init__) (defBody s_Reading___init__) (defScope s_Reading___init__) .none kV7 dc7 pm7 an7 cd7 ct7), sl7⟩) (c7 : PySem.W.codeIn K cd7 "Reading.__init__" = true) (k7 : PySem.W.keepIn K (.ref f7) = true)
    {f8 : Addr} {od8 an8 : Option Addr} {sl8 : Array (Option Value)} {oc8 kV8 dc8 pm8 cd8 ct8 : Value}
    (a8 : PySem.W.findIn K (.ref C_Reading) "next" = some (some (.ref f8))) (v8 : PySem.W.isFn K (.ref f8) = true) (l8 : K.lookup f8 = some ⟨oc8, od8, .func (PySem.W.fnOf "next" "Reading.next" (defArgs s_Reading_next) (defBody s_Reading_next) (defScope s_Reading_next) .none kV8 dc8 pm8 an8 cd8 ct8), sl8⟩) (c8 : PySem.W.codeIn K cd8 "Reading.next" = true) (k8 : PySem.W.keepIn K (.ref f8) = true)
    {f9 : Addr} {od9 an9 : Option Addr} {sl9 : Array (Option Value)} {oc9 kV9 dc9 pm9 cd9 ct9 : Value}
    (a9 : PySem.W.findIn K (.ref C_Reading) "integer" = some (some (.ref f9))) (v9 : PySem.W.isFn K (.ref f9) = true) (l9 : K.lookup f9 = some ⟨oc9, od9, .func (PySem.W.fnOf "integer" "Reading.integer" (defArgs s_Reading_integer) (defBody s_Reading_integer) (defScope s_Reading_integer) .none kV9 dc9 pm9 an9 cd9 ct9), sl9⟩) (c9 : PySem.W.codeIn K cd9 "Reading.integer" = true) (k9 : PySem.W.keepIn K (.ref f9) = true)
    {f10 : Addr} {od10 an10 : Option Addr} {sl10 : Array (Option Value)} {oc10 kV10 dc10 pm10 cd10 ct10 : Value}
    (a10 : PySem.W.findIn K (.ref C_Reading) "character" = some (some (.ref f10))) (v10 : PySem.W.isFn K (.ref f10) = true) (l10 : K.lookup f10 = some ⟨oc10, od10, .func (PySem.W.fnOf "character" "Reading.character" (defArgs s_Reading_character) (defBody s_Reading_character) (defScope s_Reading_character) .none kV10 dc10 pm10 an10 cd10 ct10), sl10⟩) (c10 : PySem.W.codeIn K cd10 "Reading.character" = true) (k10 : PySem.W.keepIn K (.ref f10) = true)
    {f11 : Addr} {od11 an11 : Option Addr} {sl11 : Array (Option Value)} {oc11 kV11 dc11 pm11 cd11 ct11 : Value}
    (a11 : PySem.W.findIn K (.ref C_Reading) "characters" = some (some (.ref f11))) (v11 : PySem.W.isFn K (.ref f11) = true) (l11 : K.lookup f11 = some ⟨oc11, od11, .func (PySem.W.fnOf "characters" "Reading.characters" (defArgs s_Reading_characters) (defBody s_Reading_characters) (defScope s_Reading_characters) .none kV11 dc11 pm11 an11 cd11 ct11), sl11⟩) (c11 : PySem.W.codeIn K cd11 "Reading.characters" = true) (k11 : PySem.W.keepIn K (.ref f11) = true)
    {f12 : Addr} {od12 an12 : Option Addr} {sl12 : Array (Option Value)} {oc12 kV12 dc12 pm12 cd12 ct12 : Value}
    (a12 : PySem.W.findIn K (.ref C_Reading) "argument" = some (some (.ref f12))) (v12 : PySem.W.isFn K (.ref f12) = true) (l12 : K.lookup f12 = some ⟨oc12, od12, .func (PySem.W.fnOf "argument" "Reading.argument" (defArgs s_Reading_argument) (defBody s_Reading_argument) (defScope s_Reading_argument) .none kV12 dc12 pm12 an12 cd12 ct12), sl12⟩) (c12 : PySem.W.codeIn K cd12 "Reading.argument" = true) (k12 : PySem.W.keepIn K (.ref f12) = true)
    {f13 cd13 : Addr} {od13 an13 : Option Addr} {sl13 : Array (Option Value)} {oc13 kV13 dc13 pm13 ct13 : Value}
    (a13 : PySem.W.nsIn K mainGlobals "read_entry" = some (some (.ref f13))) (l13 : K.lookup f13 = some ⟨oc13, od13, .func (PySem.W.fnOf "read_entry" "read_entry" (defArgs s_read_entry) (defBody s_read_entry) (defScope s_read_entry) .none kV13 dc13 pm13 an13 (.ref cd13) ct13), sl13⟩) (c13 : PySem.W.codeIn K (.ref cd13) "read_entry" = true) (k13 : PySem.W.keepIn K (.ref f13) = true)
    {f14 cd14 : Addr} {od14 an14 : Option Addr} {sl14 : Array (Option Value)} {oc14 kV14 dc14 pm14 ct14 : Value}
    (a14 : PySem.W.nsIn K mainGlobals "read_journal" = some (some (.ref f14))) (l14 : K.lookup f14 = some ⟨oc14, od14, .func (PySem.W.fnOf "read_journal" "read_journal" (defArgs s_read_journal) (defBody s_read_journal) (defScope s_read_journal) .none kV14 dc14 pm14 an14 (.ref cd14) ct14), sl14⟩) (c14 : PySem.W.codeIn K (.ref cd14) "read_journal" = true) (k14 : PySem.W.keepIn K (.ref f14) = true)
    {f15 : Addr} {od15 an15 : Option Addr} {sl15 : Array (Option Value)} {oc15 kV15 dc15 pm15 cd15 ct15 : Value}
    (a15 : PySem.W.nsIn K mainGlobals "_law_cell" = some (some (.ref f15))) (l15 : K.lookup f15 = some ⟨oc15, od15, .func (PySem.W.fnOf "_law_cell" "_law_cell" (defArgs s__law_cell) (defBody s__law_cell) (defScope s__law_cell) .none kV15 dc15 pm15 an15 cd15 ct15), sl15⟩) (c15 : PySem.W.codeIn K cd15 "_law_cell" = true) (k15 : PySem.W.keepIn K (.ref f15) = true)
    {f16 : Addr} {od16 an16 : Option Addr} {sl16 : Array (Option Value)} {oc16 kV16 dc16 pm16 cd16 ct16 : Value}
    (a16 : PySem.W.nsIn K mainGlobals "_law_digits" = some (some (.ref f16))) (l16 : K.lookup f16 = some ⟨oc16, od16, .func (PySem.W.fnOf "_law_digits" "_law_digits" (defArgs s__law_digits) (defBody s__law_digits) (defScope s__law_digits) .none kV16 dc16 pm16 an16 cd16 ct16), sl16⟩) (c16 : PySem.W.codeIn K cd16 "_law_digits" = true) (k16 : PySem.W.keepIn K (.ref f16) = true)
    {f17 : Addr} {od17 an17 : Option Addr} {sl17 : Array (Option Value)} {oc17 kV17 dc17 pm17 cd17 ct17 : Value}
    (a17 : PySem.W.nsIn K mainGlobals "_law_draw" = some (some (.ref f17))) (l17 : K.lookup f17 = some ⟨oc17, od17, .func (PySem.W.fnOf "_law_draw" "_law_draw" (defArgs s__law_draw) (defBody s__law_draw) (defScope s__law_draw) .none kV17 dc17 pm17 an17 cd17 ct17), sl17⟩) (c17 : PySem.W.codeIn K cd17 "_law_draw" = true) (k17 : PySem.W.keepIn K (.ref f17) = true)
    {f18 : Addr} {od18 an18 : Option Addr} {sl18 : Array (Option Value)} {oc18 kV18 dc18 pm18 cd18 ct18 : Value}
    (a18 : PySem.W.nsIn K mainGlobals "_law_read" = some (some (.ref f18))) (l18 : K.lookup f18 = some ⟨oc18, od18, .func (PySem.W.fnOf "_law_read" "_law_read" (defArgs s__law_read) (defBody s__law_read) (defScope s__law_read) .none kV18 dc18 pm18 an18 cd18 ct18), sl18⟩) (c18 : PySem.W.codeIn K cd18 "_law_read" = true) (k18 : PySem.W.keepIn K (.ref f18) = true)
    {f19 : Addr} {od19 an19 : Option Addr} {sl19 : Array (Option Value)} {oc19 kV19 dc19 pm19 cd19 ct19 : Value}
    (a19 : PySem.W.nsIn K mainGlobals "law" = some (some (.ref f19))) (l19 : K.lookup f19 = some ⟨oc19, od19, .func (PySem.W.fnOf "law" "law" (defArgs s_law) (defBody s_law) (defScope s_law) .none kV19 dc19 pm19 an19 cd19 ct19), sl19⟩) (c19 : PySem.W.codeIn K cd19 "law" = true) (k19 : PySem.W.keepIn K (.ref f19) = true)
    (z0 : PySem.W.nsIn K mainGlobals "ValueError" = some none)
    (z1 : PySem.W.nsIn K mainGlobals "abs" = some none)
    (z2 : PySem.W.nsIn K mainGlobals "any" = some none)
    (z3 : PySem.W.nsIn K mainGlobals "enumerate" = some none)
    (z4 : PySem.W.nsIn K mainGlobals "int" = some none)
    (z5 : PySem.W.nsIn K mainGlobals "isinstance" = some none)
    (z6 : PySem.W.nsIn K mainGlobals "len" = some none)
    (z7 : PySem.W.nsIn K mainGlobals "list" = some none)
    (z8 : PySem.W.nsIn K mainGlobals "number" = some none)
    (z9 : PySem.W.nsIn K mainGlobals "ord" = some none)
    (z10 : PySem.W.nsIn K mainGlobals "range" = some none)
    (z11 : PySem.W.nsIn K mainGlobals "super" = some none)
    (z12 : PySem.W.nsIn K mainGlobals "tuple" = some none)
    (g_BadJournal : PySem.W.nsIn K mainGlobals "BadJournal" = some (some (.ref C_BadJournal)))
    (g_NoEntry : PySem.W.nsIn K mainGlobals "NoEntry" = some (some (.ref C_NoEntry)))
    (g_Reading : PySem.W.nsIn K mainGlobals "Reading" = some (some (.ref C_Reading)))
    (g_RecordError : PySem.W.nsIn K mainGlobals "RecordError" = some (some (.ref C_RecordError)))
    {t_BYTE : Tok} (g_BYTE : PySem.W.nsIn K mainGlobals "BYTE" = some (some (.int 256 t_BYTE)))
    {t_FIRST_SIGN : Tok} (g_FIRST_SIGN : PySem.W.nsIn K mainGlobals "FIRST_SIGN" = some (some (.int 32 t_FIRST_SIGN)))
    {t_INTEGER_BYTES : Tok} (g_INTEGER_BYTES : PySem.W.nsIn K mainGlobals "INTEGER_BYTES" = some (some (.int 4 t_INTEGER_BYTES)))
    {t_LEFT_OUT : Tok} (g_LEFT_OUT : PySem.W.nsIn K mainGlobals "LEFT_OUT" = some (some (.int 37 t_LEFT_OUT)))
    {t_NEWLINE : Tok} (g_NEWLINE : PySem.W.nsIn K mainGlobals "NEWLINE" = some (some (.int 10 t_NEWLINE)))
    {t_NO_INTEGER : Tok} (g_NO_INTEGER : PySem.W.nsIn K mainGlobals "NO_INTEGER" = some (some (.int 2 t_NO_INTEGER)))
    {t_NO_TEXT : Tok} (g_NO_TEXT : PySem.W.nsIn K mainGlobals "NO_TEXT" = some (some (.int 255 t_NO_TEXT)))
    {t_SIGNS : Tok} (g_SIGNS : PySem.W.nsIn K mainGlobals "SIGNS" = some (some (.str " !\"#$&'()*+,-./0123456789:;<=>?@ABCDEFGHIJKLMNOPQRSTUVWXYZ[\\]^_`abcdefghijklmnopqrstuvwxyz{|}~" t_SIGNS)))
    {t_START : Tok} (g_START : PySem.W.nsIn K mainGlobals "START" = some (some (.str "start" t_START)))
    {KA_FORMS : Addr} (g_FORMS : PySem.W.nsIn K mainGlobals "FORMS" = some (some (.ref KA_FORMS)))
    {KA_FORMS_0 : Addr}
    {KA_FORMS_1 : Addr}
    {KA_FORMS_2 : Addr}
    {KA_FORMS_3 : Addr}
    {KA_FORMS_4 : Addr}
    {KA_FORMS_5 : Addr}
    {KA_FORMS_6 : Addr}
    {KA_FORMS_7 : Addr}
    {KA_FORMS_8 : Addr}
    {KA_FORMS_9 : Addr}
    {KA_FORMS_10 : Addr}
    {KA_FORMS_11 : Addr}
    {KA_FORMS_12 : Addr}
    {KA_FORMS_13 : Addr}
    {KA_FORMS_14 : Addr}
    {KA_FORMS_15 : Addr}
    {KA_FORMS_16 : Addr}
    {KA_FORMS_17 : Addr}
    {td_KA_FORMS : Option Addr} {tn_KA_FORMS : Nat} {ts_KA_FORMS : Array (Option Value)} (tl_KA_FORMS : K.lookup KA_FORMS = some ⟨.type "tuple", td_KA_FORMS, .seq #[.ref KA_FORMS_0, .ref KA_FORMS_1, .ref KA_FORMS_2, .ref KA_FORMS_3, .ref KA_FORMS_4, .ref KA_FORMS_5, .ref KA_FORMS_6, .ref KA_FORMS_7, .ref KA_FORMS_8, .ref KA_FORMS_9, .ref KA_FORMS_10, .ref KA_FORMS_11, .ref KA_FORMS_12, .ref KA_FORMS_13, .ref KA_FORMS_14, .ref KA_FORMS_15, .ref KA_FORMS_16, .ref KA_FORMS_17] tn_KA_FORMS, ts_KA_FORMS⟩)
    {tk_KA_FORMS_0_0 : Tok}
    {tk_KA_FORMS_0_1 : Tok}
    {td_KA_FORMS_0 : Option Addr} {tn_KA_FORMS_0 : Nat} {ts_KA_FORMS_0 : Array (Option Value)} (tl_KA_FORMS_0 : K.lookup KA_FORMS_0 = some ⟨.type "tuple", td_KA_FORMS_0, .seq #[.str "create" tk_KA_FORMS_0_0, .str "ti" tk_KA_FORMS_0_1] tn_KA_FORMS_0, ts_KA_FORMS_0⟩)
    {tk_KA_FORMS_1_0 : Tok}
    {tk_KA_FORMS_1_1 : Tok}
    {td_KA_FORMS_1 : Option Addr} {tn_KA_FORMS_1 : Nat} {ts_KA_FORMS_1 : Array (Option Value)} (tl_KA_FORMS_1 : K.lookup KA_FORMS_1 = some ⟨.type "tuple", td_KA_FORMS_1, .seq #[.str "put" tk_KA_FORMS_1_0, .str "iti" tk_KA_FORMS_1_1] tn_KA_FORMS_1, ts_KA_FORMS_1⟩)
    {tk_KA_FORMS_2_0 : Tok}
    {tk_KA_FORMS_2_1 : Tok}
    {td_KA_FORMS_2 : Option Addr} {tn_KA_FORMS_2 : Nat} {ts_KA_FORMS_2 : Array (Option Value)} (tl_KA_FORMS_2 : K.lookup KA_FORMS_2 = some ⟨.type "tuple", td_KA_FORMS_2, .seq #[.str "select" tk_KA_FORMS_2_0, .str "itT" tk_KA_FORMS_2_1] tn_KA_FORMS_2, ts_KA_FORMS_2⟩)
    {tk_KA_FORMS_3_0 : Tok}
    {tk_KA_FORMS_3_1 : Tok}
    {td_KA_FORMS_3 : Option Addr} {tn_KA_FORMS_3 : Nat} {ts_KA_FORMS_3 : Array (Option Value)} (tl_KA_FORMS_3 : K.lookup KA_FORMS_3 = some ⟨.type "tuple", td_KA_FORMS_3, .seq #[.str "push" tk_KA_FORMS_3_0, .str "itI" tk_KA_FORMS_3_1] tn_KA_FORMS_3, ts_KA_FORMS_3⟩)
    {tk_KA_FORMS_4_0 : Tok}
    {tk_KA_FORMS_4_1 : Tok}
    {td_KA_FORMS_4 : Option Addr} {tn_KA_FORMS_4 : Nat} {ts_KA_FORMS_4 : Array (Option Value)} (tl_KA_FORMS_4 : K.lookup KA_FORMS_4 = some ⟨.type "tuple", td_KA_FORMS_4, .seq #[.str "pop" tk_KA_FORMS_4_0, .str "it" tk_KA_FORMS_4_1] tn_KA_FORMS_4, ts_KA_FORMS_4⟩)
    {tk_KA_FORMS_5_0 : Tok}
    {tk_KA_FORMS_5_1 : Tok}
    {td_KA_FORMS_5 : Option Addr} {tn_KA_FORMS_5 : Nat} {ts_KA_FORMS_5 : Array (Option Value)} (tl_KA_FORMS_5 : K.lookup KA_FORMS_5 = some ⟨.type "tuple", td_KA_FORMS_5, .seq #[.str "delete" tk_KA_FORMS_5_0, .str "i" tk_KA_FORMS_5_1] tn_KA_FORMS_5, ts_KA_FORMS_5⟩)
    {tk_KA_FORMS_6_0 : Tok}
    {tk_KA_FORMS_6_1 : Tok}
    {td_KA_FORMS_6 : Option Addr} {tn_KA_FORMS_6 : Nat} {ts_KA_FORMS_6 : Array (Option Value)} (tl_KA_FORMS_6 : K.lookup KA_FORMS_6 = some ⟨.type "tuple", td_KA_FORMS_6, .seq #[.str "upgrade" tk_KA_FORMS_6_0, .str "ii" tk_KA_FORMS_6_1] tn_KA_FORMS_6, ts_KA_FORMS_6⟩)
    {tk_KA_FORMS_7_0 : Tok}
    {tk_KA_FORMS_7_1 : Tok}
    {td_KA_FORMS_7 : Option Addr} {tn_KA_FORMS_7 : Nat} {ts_KA_FORMS_7 : Array (Option Value)} (tl_KA_FORMS_7 : K.lookup KA_FORMS_7 = some ⟨.type "tuple", td_KA_FORMS_7, .seq #[.str "grow" tk_KA_FORMS_7_0, .str "i" tk_KA_FORMS_7_1] tn_KA_FORMS_7, ts_KA_FORMS_7⟩)
    {tk_KA_FORMS_8_0 : Tok}
    {tk_KA_FORMS_8_1 : Tok}
    {td_KA_FORMS_8 : Option Addr} {tn_KA_FORMS_8 : Nat} {ts_KA_FORMS_8 : Array (Option Value)} (tl_KA_FORMS_8 : K.lookup KA_FORMS_8 = some ⟨.type "tuple", td_KA_FORMS_8, .seq #[.str "push_together" tk_KA_FORMS_8_0, .str "" tk_KA_FORMS_8_1] tn_KA_FORMS_8, ts_KA_FORMS_8⟩)
    {tk_KA_FORMS_9_0 : Tok}
    {tk_KA_FORMS_9_1 : Tok}
    {td_KA_FORMS_9 : Option Addr} {tn_KA_FORMS_9 : Nat} {ts_KA_FORMS_9 : Array (Option Value)} (tl_KA_FORMS_9 : K.lookup KA_FORMS_9 = some ⟨.type "tuple", td_KA_FORMS_9, .seq #[.str "checkpoint" tk_KA_FORMS_9_0, .str "" tk_KA_FORMS_9_1] tn_KA_FORMS_9, ts_KA_FORMS_9⟩)
    {tk_KA_FORMS_10_0 : Tok}
    {tk_KA_FORMS_10_1 : Tok}
    {td_KA_FORMS_10 : Option Addr} {tn_KA_FORMS_10 : Nat} {ts_KA_FORMS_10 : Array (Option Value)} (tl_KA_FORMS_10 : K.lookup KA_FORMS_10 = some ⟨.type "tuple", td_KA_FORMS_10, .seq #[.str "back" tk_KA_FORMS_10_0, .str "" tk_KA_FORMS_10_1] tn_KA_FORMS_10, ts_KA_FORMS_10⟩)
    {tk_KA_FORMS_11_0 : Tok}
    {tk_KA_FORMS_11_1 : Tok}
    {td_KA_FORMS_11 : Option Addr} {tn_KA_FORMS_11 : Nat} {ts_KA_FORMS_11 : Array (Option Value)} (tl_KA_FORMS_11 : K.lookup KA_FORMS_11 = some ⟨.type "tuple", td_KA_FORMS_11, .seq #[.str "commit" tk_KA_FORMS_11_0, .str "" tk_KA_FORMS_11_1] tn_KA_FORMS_11, ts_KA_FORMS_11⟩)
    {tk_KA_FORMS_12_0 : Tok}
    {tk_KA_FORMS_12_1 : Tok}
    {td_KA_FORMS_12 : Option Addr} {tn_KA_FORMS_12 : Nat} {ts_KA_FORMS_12 : Array (Option Value)} (tl_KA_FORMS_12 : K.lookup KA_FORMS_12 = some ⟨.type "tuple", td_KA_FORMS_12, .seq #[.str "device" tk_KA_FORMS_12_0, .str "" tk_KA_FORMS_12_1] tn_KA_FORMS_12, ts_KA_FORMS_12⟩)
    {tk_KA_FORMS_13_0 : Tok}
    {tk_KA_FORMS_13_1 : Tok}
    {td_KA_FORMS_13 : Option Addr} {tn_KA_FORMS_13 : Nat} {ts_KA_FORMS_13 : Array (Option Value)} (tl_KA_FORMS_13 : K.lookup KA_FORMS_13 = some ⟨.type "tuple", td_KA_FORMS_13, .seq #[.str "lease" tk_KA_FORMS_13_0, .str "iitb" tk_KA_FORMS_13_1] tn_KA_FORMS_13, ts_KA_FORMS_13⟩)
    {tk_KA_FORMS_14_0 : Tok}
    {tk_KA_FORMS_14_1 : Tok}
    {td_KA_FORMS_14 : Option Addr} {tn_KA_FORMS_14 : Nat} {ts_KA_FORMS_14 : Array (Option Value)} (tl_KA_FORMS_14 : K.lookup KA_FORMS_14 = some ⟨.type "tuple", td_KA_FORMS_14, .seq #[.str "release" tk_KA_FORMS_14_0, .str "i" tk_KA_FORMS_14_1] tn_KA_FORMS_14, ts_KA_FORMS_14⟩)
    {tk_KA_FORMS_15_0 : Tok}
    {tk_KA_FORMS_15_1 : Tok}
    {td_KA_FORMS_15 : Option Addr} {tn_KA_FORMS_15 : Nat} {ts_KA_FORMS_15 : Array (Option Value)} (tl_KA_FORMS_15 : K.lookup KA_FORMS_15 = some ⟨.type "tuple", td_KA_FORMS_15, .seq #[.str "begin" tk_KA_FORMS_15_0, .str "ititIIT" tk_KA_FORMS_15_1] tn_KA_FORMS_15, ts_KA_FORMS_15⟩)
    {tk_KA_FORMS_16_0 : Tok}
    {tk_KA_FORMS_16_1 : Tok}
    {td_KA_FORMS_16 : Option Addr} {tn_KA_FORMS_16 : Nat} {ts_KA_FORMS_16 : Array (Option Value)} (tl_KA_FORMS_16 : K.lookup KA_FORMS_16 = some ⟨.type "tuple", td_KA_FORMS_16, .seq #[.str "step" tk_KA_FORMS_16_0, .str "i" tk_KA_FORMS_16_1] tn_KA_FORMS_16, ts_KA_FORMS_16⟩)
    {tk_KA_FORMS_17_0 : Tok}
    {tk_KA_FORMS_17_1 : Tok}
    {td_KA_FORMS_17 : Option Addr} {tn_KA_FORMS_17 : Nat} {ts_KA_FORMS_17 : Array (Option Value)} (tl_KA_FORMS_17 : K.lookup KA_FORMS_17 = some ⟨.type "tuple", td_KA_FORMS_17, .seq #[.str "abort" tk_KA_FORMS_17_0, .str "i" tk_KA_FORMS_17_1] tn_KA_FORMS_17, ts_KA_FORMS_17⟩)
    (sq_C_BadJournal : supIn K C_BadJournal c0A cc0A l.prog.main.file = true)
    (ss_C_BadJournal : PySem.W.mroIn K C_BadJournal (.ref C_BadJournal) = some true)
    (sm_C_BadJournal : PySem.W.ks_superIn K C_BadJournal C_BadJournal "__init__" = some (some (.builtin "ValueError.__init__")))
    (sv_C_BadJournal : PySem.W.subIn K (.ref C_BadJournal) (.type "ValueError") = some true)
    (so_C_BadJournal : PySem.W.nsIn K cStatics "thirdparty.any" = some none)
    (st_C_BadJournal : (l.prog.main.scope.names.lookup ("super" : Str)).isSome = false)
    (ox_C_BadJournal : oexIn K C_BadJournal = true)
    (oa_C_BadJournal : PySem.W.findIn K (.ref C_BadJournal) "__setattr__" = some (some (.builtin "object.__setattr__")))
    (oe_C_BadJournal : PySem.W.subIn K (.ref C_BadJournal) (.type "BaseException") = some true)
    (oy_C_BadJournal : PySem.W.typeIn K (.ref C_BadJournal) = some (.type "type"))
    (ok_C_BadJournal : PySem.W.keepIn K (.ref C_BadJournal) = true)
    (ot_C_BadJournal : PySem.W.typeIn K (.ref f0) = some (.type "function"))
    (of0_C_BadJournal : PySem.W.findIn K (.ref C_BadJournal) "place" = some none)
    {Pt0 : Addr} {ccl0 : Value} {cdd0 : Option Addr} {fvs0 : Array Value} {csl0 : Array (Option Value)} (hc0 : K.lookup cd13 = some ⟨ccl0, cdd0, .fields fvs0, csl0⟩) (hp0 : fvs0[11]? = some (.ref Pt0))
    (hh0 : PySem.W.codeHdIn K cd13 Pt0 = true) (hn0 : K.lookup Pt0 = none) (ht0 : h.get? Pt0 = some { cls := .none, data := .fields #[] })
    {Pt1 : Addr} {ccl1 : Value} {cdd1 : Option Addr} {fvs1 : Array Value} {csl1 : Array (Option Value)} (hc1 : K.lookup cd14 = some ⟨ccl1, cdd1, .fields fvs1, csl1⟩) (hp1 : fvs1[11]? = some (.ref Pt1))
    (hh1 : PySem.W.codeHdIn K cd14 Pt1 = true) (hn1 : K.lookup Pt1 = none) (ht1 : h.get? Pt1 = some { cls := .none, data := .fields #[] })
    (hne : Pt0 ≠ Pt1)
    (o_pg_Reading : PySem.W.plainGet K C_Reading Str.empty = true)
    (o_hd_Reading : PySem.W.hasDictIn K C_Reading = true)
    (o_po_Reading : PySem.W.plainOver K C_Reading = true)
    (o_sa_Reading : PySem.W.findIn K (.ref C_Reading) "__setattr__" = some (some (.builtin "object.__setattr__")))
    (o_mk_Reading : PySem.W.makesIn K C_Reading = true)
    (o_kp_Reading : PySem.W.keepIn K (.ref C_Reading) = true)
    (r_x_NoEntry : PySem.W.excIn K C_NoEntry [.type "ValueError", .type "Exception", .type "BaseException", .type "object"] "ValueError.__new__" = true)
    (r_k_NoEntry : PySem.W.keepIn K (.ref C_NoEntry) = true)
    (r_bb_NoEntry : PySem.W.subIn K (.ref C_NoEntry) (.type "BaseException") = some true)
    (r_tt_NoEntry : PySem.W.typeIn K (.ref C_NoEntry) = some (.type "type"))
    (q_ex_BadJournal_hg : PySem.W.findIn K (.ref C_BadJournal) "__getattribute__" = some (some (.builtin "BaseException.__getattribute__")))
    (q_ex_BadJournal_hk : PySem.W.findIn K (.ref C_BadJournal) "__getattr__" = some none)
    (q_ex_BadJournal_hs : PySem.W.subIn K (.ref C_BadJournal) (.type "BaseException") = some true)
    (q_ex_BadJournal_hd : PySem.W.hasDictIn K C_BadJournal = true)
    (q_ex_BadJournal_ha : PySem.W.findIn K (.ref C_BadJournal) "__class__" = some (some (.builtin "object.__class__")))
    (q_ex_BadJournal_hn : PySem.W.specialIn K (.builtin "object.__class__") "__get__" = some (some (.builtin "getset_descriptor.__get__")))
    (q_ex_BadJournal_ht : PySem.W.takesIn K (.builtin "object.__class__") = some true)
    (q_ex_BadJournal_hm : PySem.W.mroIn K C_BadJournal (.type "object") = some true)
    (qc_RecordError : PySem.W.isClsIn K C_RecordError = true)
    (qt_RecordError : PySem.W.typeIn K (.ref C_RecordError) = some (.type "type"))
    (qs_BadJournal_RecordError : PySem.W.subIn K (.ref C_BadJournal) (.ref C_RecordError) = some true)
    (qb_RecordError : PySem.W.subIn K (.ref C_RecordError) (.type "BaseException") = some true)
    (qc_NoEntry : PySem.W.isClsIn K C_NoEntry = true)
    (qt_NoEntry : PySem.W.typeIn K (.ref C_NoEntry) = some (.type "type"))
    (qs_NoEntry_NoEntry : PySem.W.subIn K (.ref C_NoEntry) (.ref C_NoEntry) = some true)
    (qb_NoEntry : PySem.W.subIn K (.ref C_NoEntry) (.type "BaseException") = some true)
    (qc_BadJournal : PySem.W.isClsIn K C_BadJournal = true)
    (qt_BadJournal : PySem.W.typeIn K (.ref C_BadJournal) = some (.type "type"))
    (qs_BadJournal_BadJournal : PySem.W.subIn K (.ref C_BadJournal) (.ref C_BadJournal) = some true)
    (qs_BadJournal_ValueError : PySem.W.subIn K (.ref C_BadJournal) (.type "ValueError") = some true)
    (e_Reading_0 : PySem.W.findIn K (.ref C_Reading) "numbers" = some none)
    (e_Reading_1 : PySem.W.findIn K (.ref C_Reading) "at" = some none)
    : LawAtG l w K 8 63 "_law_script" mg fa h := by
  have e := hfa.symm.trans (PySem.W.mg_of X G a19)
  cases e
  have F0 := funS_of (P := l.prog) (st := s_BadJournal___init__) l0 c0 sq_C_BadJournal ss_C_BadJournal sm_C_BadJournal sv_C_BadJournal so_C_BadJournal st_C_BadJournal
  have b0 := F0.binds (ps := ["self", "place"]) fun _ _ _ _ _ _ _ us hl => match us, hl with | [_, _], _ => rfl
  have F1 := fun_mk (st := s_two_numbers) l1 c1 k1
  have b1 := F1.binds (ps := ["number"]) fun _ _ _ _ _ _ us hl => match us, hl with | [_], _ => rfl
  have F2 := fun_mk (st := s_write_integer) l2 c2 k2
  have b2 := F2.binds (ps := ["value"]) fun _ _ _ _ _ _ us hl => match us, hl with | [_], _ => rfl
  have F3 := fun_mk (st := s_write_characters) l3 c3 k3
  have b3 := F3.binds (ps := ["text"]) fun _ _ _ _ _ _ us hl => match us, hl with | [_], _ => rfl
  have F4 := fun_mk (st := s_write_argument) l4 c4 k4
  have b4 := F4.binds (ps := ["kind", "value"]) fun _ _ _ _ _ _ us hl => match us, hl with | [_, _], _ => rfl
  have F5 := fun_mk (st := s_write_content) l5 c5 k5
  have b5 := F5.binds (ps := ["name", "arguments"]) fun _ _ _ _ _ _ us hl => match us, hl with | [_, _], _ => rfl
  have F6 := fun_mk (st := s_write_entry) l6 c6 k6
  have b6 := F6.binds (ps := ["name", "arguments"]) fun _ _ _ _ _ _ us hl => match us, hl with | [_, _], _ => rfl
  have F7 := fun_mk (st := s_Reading___init__) l7 c7 k7
  have b7 := F7.binds (ps := ["self", "numbers"]) fun _ _ _ _ _ _ us hl => match us, hl with | [_, _], _ => rfl
  have F8 := fun_mk (st := s_Reading_next) l8 c8 k8
  have b8 := F8.binds (ps := ["self"]) fun _ _ _ _ _ _ us hl => match us, hl with | [_], _ => rfl
  have F9 := fun_mk (st := s_Reading_integer) l9 c9 k9
  have b9 := F9.binds (ps := ["self", "sign"]) fun _ _ _ _ _ _ us hl => match us, hl with | [_, _], _ => rfl
  have F10 := fun_mk (st := s_Reading_character) l10 c10 k10
  have b10 := F10.binds (ps := ["self"]) fun _ _ _ _ _ _ us hl => match us, hl with | [_], _ => rfl
  have F11 := fun_mk (st := s_Reading_characters) l11 c11 k11
  have b11 := F11.binds (ps := ["self", "many"]) fun _ _ _ _ _ _ us hl => match us, hl with | [_, _], _ => rfl
  have F12 := fun_mk (st := s_Reading_argument) l12 c12 k12
  have b12 := F12.binds (ps := ["self", "kind"]) fun _ _ _ _ _ _ us hl => match us, hl with | [_, _], _ => rfl
  have F13 := funC_mk (st := s_read_entry) (tP := Pt0) l13 c13 k13
  have b13 := F13.fn.binds (ps := ["numbers"]) fun _ _ _ _ _ _ us hl => match us, hl with | [_], _ => rfl
  have F14 := funC_mk (st := s_read_journal) (tP := Pt1) l14 c14 k14
  have b14 := F14.fn.binds (ps := ["numbers"]) fun _ _ _ _ _ _ us hl => match us, hl with | [_], _ => rfl
  have F15 := fun_mk (st := s__law_cell) l15 c15 k15
  have b15 := F15.binds (ps := ["_law_script", "_law_k"]) fun _ _ _ _ _ _ us hl => match us, hl with | [_, _], _ => rfl
  have F16 := fun_mk (st := s__law_digits) l16 c16 k16
  have b16 := F16.binds (ps := ["_law_script", "_law_first", "_law_last"]) fun _ _ _ _ _ _ us hl => match us, hl with | [_, _, _], _ => rfl
  have F17 := fun_mk (st := s__law_draw) l17 c17 k17
  have b17 := F17.binds (ps := ["_law_box", "_law_many"]) fun _ _ _ _ _ _ us hl => match us, hl with | [_, _], _ => rfl
  have F18 := fun_mk (st := s__law_read) l18 c18 k18
  have b18 := F18.binds (ps := ["_law_numbers"]) fun _ _ _ _ _ _ us hl => match us, hl with | [_], _ => rfl
  have F19 := fun_mk (st := s_law) l19 c19 k19
  have b19 := F19.binds (ps := ["_law_script"]) fun _ _ _ _ _ _ us hl => match us, hl with | [_], _ => rfl
  have T : ∀ base : Heap, base.Ns mainGlobals mg → (∀ p ∈ ([(cd13, Pt0), (cd14, Pt1)] : List (Addr × Addr)), GxR.TabB base mg p.1 p.2) → Top l.prog K mg ⟨C_RecordError, 0, 0, 0, 0, 0, 0, C_BadJournal, 0, 0, 0, 0, C_NoEntry, C_Reading, fun n => [KA_FORMS].getD n 0, fun n => [Pt0, Pt1].getD n 0⟩ ⟨_, _, _, _, _, _, _, _, _, _, _, _, _, _, _, _, _, _, _, _, _, _, _, _, _, _, _, _, _, _, _, _, _, _, _, _, _, _, _, _, cd13, cd14⟩ base := fun base nsb tb => ⟨F0, b0, oexC_of ox_C_BadJournal oa_C_BadJournal oe_C_BadJournal oy_C_BadJournal ok_C_BadJournal, (fun f hf => by simp only [List.mem_cons, List.not_mem_nil, or_false] at hf; rcases hf with rfl <;> assumption), a0, ot_C_BadJournal, F1, b1, PySem.W.mg_of X G a1, F2, b2, PySem.W.mg_of X G a2, F3, b3, PySem.W.mg_of X G a3, F4, b4, PySem.W.mg_of X G a4, F5, b5, PySem.W.mg_of X G a5, F6, b6, PySem.W.mg_of X G a6, F7, b7, ⟨a7, v7, k7⟩, F8, b8, ⟨a8, v8, k8⟩, F9, b9, ⟨a9, v9, k9⟩, F10, b10, ⟨a10, v10, k10⟩, F11, b11, ⟨a11, v11, k11⟩, F12, b12, ⟨a12, v12, k12⟩, F13, b13, PySem.W.mg_of X G a13, F14, b14, PySem.W.mg_of X G a14, F15, b15, PySem.W.mg_of X G a15, F16, b16, PySem.W.mg_of X G a16, F17, b17, PySem.W.mg_of X G a17, F18, b18, PySem.W.mg_of X G a18, F19, b19, PySem.W.mg_of X G a19, ⟨o_pg_Reading, o_hd_Reading, o_po_Reading, o_sa_Reading⟩, ⟨o_mk_Reading, a7, v7, o_kp_Reading⟩, PySem.W.mg_none_of X G z0, PySem.W.mg_none_of X G z1, PySem.W.mg_none_of X G z2, PySem.W.mg_none_of X G z3, PySem.W.mg_none_of X G z4, PySem.W.mg_none_of X G z5, PySem.W.mg_none_of X G z6, PySem.W.mg_none_of X G z7, PySem.W.mg_none_of X G z8, PySem.W.mg_none_of X G z9, PySem.W.mg_none_of X G z10, PySem.W.mg_none_of X G z11, PySem.W.mg_none_of X G z12, PySem.W.mg_of X G g_BadJournal, PySem.W.mg_of X G g_NoEntry, PySem.W.mg_of X G g_Reading, PySem.W.mg_of X G g_RecordError, ⟨_, PySem.W.mg_of X G g_BYTE⟩, ⟨_, PySem.W.mg_of X G g_FIRST_SIGN⟩, ⟨_, PySem.W.mg_of X G g_INTEGER_BYTES⟩, ⟨_, PySem.W.mg_of X G g_LEFT_OUT⟩, ⟨_, PySem.W.mg_of X G g_NEWLINE⟩, ⟨_, PySem.W.mg_of X G g_NO_INTEGER⟩, ⟨_, PySem.W.mg_of X G g_NO_TEXT⟩, ⟨_, PySem.W.mg_of X G g_SIGNS⟩, ⟨_, PySem.W.mg_of X G g_START⟩, r_x_NoEntry, r_k_NoEntry, r_bb_NoEntry, r_tt_NoEntry, PySem.W.mg_of X G g_FORMS, ⟨tb (cd13, Pt0) (by simp), tb (cd14, Pt1) (by simp), nsb⟩, ⟨⟨q_ex_BadJournal_hg, q_ex_BadJournal_hk, q_ex_BadJournal_hs, q_ex_BadJournal_hd, q_ex_BadJournal_ha, q_ex_BadJournal_hn, q_ex_BadJournal_ht, q_ex_BadJournal_hm⟩, (exm_r qb_RecordError qc_RecordError qt_RecordError qs_BadJournal_RecordError), (exm_r qb_NoEntry qc_NoEntry qt_NoEntry qs_NoEntry_NoEntry), (kit_r qc_BadJournal qt_BadJournal qs_BadJournal_BadJournal fun _ => rfl), (kit_t (by decide +kernel) qs_BadJournal_ValueError), ⟨⟨o_pg_Reading, o_hd_Reading, o_po_Reading, o_sa_Reading⟩, fun z hz => by simp only [List.mem_cons, List.not_mem_nil, or_false] at hz; rcases hz with rfl | rfl <;> assumption⟩, fun H => (imK2 tl_KA_FORMS (.cons relRef (.cons relRef (.cons relRef (.cons relRef (.cons relRef (.cons relRef (.cons relRef (.cons relRef (.cons relRef (.cons relRef (.cons relRef (.cons relRef (.cons relRef (.cons relRef (.cons relRef (.cons relRef (.cons relRef (.cons relRef (.nil))))))))))))))))))) (.cons (imK2 tl_KA_FORMS_0 (.cons relStr (.cons relStr (.nil))) (.cons (.str _) (.cons (.str _) (.nil)))) (.cons (imK2 tl_KA_FORMS_1 (.cons relStr (.cons relStr (.nil))) (.cons (.str _) (.cons (.str _) (.nil)))) (.cons (imK2 tl_KA_FORMS_2 (.cons relStr (.cons relStr (.nil))) (.cons (.str _) (.cons (.str _) (.nil)))) (.cons (imK2 tl_KA_FORMS_3 (.cons relStr (.cons relStr (.nil))) (.cons (.str _) (.cons (.str _) (.nil)))) (.cons (imK2 tl_KA_FORMS_4 (.cons relStr (.cons relStr (.nil))) (.cons (.str _) (.cons (.str _) (.nil)))) (.cons (imK2 tl_KA_FORMS_5 (.cons relStr (.cons relStr (.nil))) (.cons (.str _) (.cons (.str _) (.nil)))) (.cons (imK2 tl_KA_FORMS_6 (.cons relStr (.cons relStr (.nil))) (.cons (.str _) (.cons (.str _) (.nil)))) (.cons (imK2 tl_KA_FORMS_7 (.cons relStr (.cons relStr (.nil))) (.cons (.str _) (.cons (.str _) (.nil)))) (.cons (imK2 tl_KA_FORMS_8 (.cons relStr (.cons relStr (.nil))) (.cons (.str _) (.cons (.str _) (.nil)))) (.cons (imK2 tl_KA_FORMS_9 (.cons relStr (.cons relStr (.nil))) (.cons (.str _) (.cons (.str _) (.nil)))) (.cons (imK2 tl_KA_FORMS_10 (.cons relStr (.cons relStr (.nil))) (.cons (.str _) (.cons (.str _) (.nil)))) (.cons (imK2 tl_KA_FORMS_11 (.cons relStr (.cons relStr (.nil))) (.cons (.str _) (.cons (.str _) (.nil)))) (.cons (imK2 tl_KA_FORMS_12 (.cons relStr (.cons relStr (.nil))) (.cons (.str _) (.cons (.str _) (.nil)))) (.cons (imK2 tl_KA_FORMS_13 (.cons relStr (.cons relStr (.nil))) (.cons (.str _) (.cons (.str _) (.nil)))) (.cons (imK2 tl_KA_FORMS_14 (.cons relStr (.cons relStr (.nil))) (.cons (.str _) (.cons (.str _) (.nil)))) (.cons (imK2 tl_KA_FORMS_15 (.cons relStr (.cons relStr (.nil))) (.cons (.str _) (.cons (.str _) (.nil)))) (.cons (imK2 tl_KA_FORMS_16 (.cons relStr (.cons relStr (.nil))) (.cons (.str _) (.cons (.str _) (.nil)))) (.cons (imK2 tl_KA_FORMS_17 (.cons relStr (.cons relStr (.nil))) (.cons (.str _) (.cons (.str _) (.nil)))) (.nil))))))))))))))))))))⟩⟩
  refine ⟨_, [(cd13, Pt0), (cd14, Pt1)], sp_law K ⟨C_RecordError, 0, 0, 0, 0, 0, 0, C_BadJournal, 0, 0, 0, 0, C_NoEntry, C_Reading, fun n => [KA_FORMS].getD n 0, fun n => [Pt0, Pt1].getD n 0⟩, fun p hp => by simp only [List.mem_cons, List.not_mem_nil, or_false] at hp; rcases hp with rfl | rfl <;> assumption, fun p hp => by simp only [List.mem_cons, List.not_mem_nil, or_false] at hp; rcases hp with rfl | rfl <;> assumption, fun p hp => by simp only [List.mem_cons, List.not_mem_nil, or_false] at hp; rcases hp with rfl | rfl; exact PySem.W.codeHd_of_K X hh0; exact PySem.W.codeHd_of_K X hh1, fun s v => .of_eq rfl, fun H a ns _ _ hT hS => ?_, fun base _ nsb tb => ok_law (T base nsb tb)⟩
  exact ⟨a, ns, rfl, hS, ⟨hne, ⟨#[], hT (cd13, Pt0) (by simp), trivial⟩, ⟨#[], hT (cd14, Pt1) (by simp), trivial⟩⟩, fun _ => rfl⟩
end Rs
open PySem PySem.W PyProof.Rows
set_option maxRecDepth 100000 in
set_option maxHeartbeats 0 in
local macro_rules | `(tactic| o_head ($h:ident $k $a $e)) => `(tactic| o_head (PySem.W.kmHook $k $a $e [174, 179]))
set_option maxRecDepth 100000 in
set_option maxHeartbeats 0 in
theorem PySem.Challenge.cw_recstore_k30_journal_refused_holds : PySem.Challenge.rw_recstore_k30_journal_refused.Holds := by
  w_on; o_law; k_head; (case hw => w_witness2)
  k_fill
  refine Rs.walk_ofGT (l := PySem.Challenge.rw_recstore_k30_journal_refused) (n := 63) (k := 8) (x := "_law_script") rfl (by decide) rfl ⟨rfl, by decide, by decide⟩ (fun w h Y => PySem.W.km_in_of Y) ?F
  case F =>
    intro w mg fa h Y KX G hmg
    refine' Rs.all_mk KX G hmg ?a0 ?l0 ?c0 ?a1 ?l1 ?c1 ?k1 ?a2 ?l2 ?c2 ?k2 ?a3 ?l3 ?c3 ?k3 ?a4 ?l4 ?c4 ?k4 ?a5 ?l5 ?c5 ?k5 ?a6 ?l6 ?c6 ?k6 ?a7 ?v7 ?l7 ?c7 ?k7 ?a8 ?v8 ?l8 ?c8 ?k8 ?a9 ?v9 ?l9 ?c9 ?k9 ?a10 ?v10 ?l10 ?c10 ?k10 ?a11 ?v11 ?l11 ?c11 ?k11 ?a12 ?v12 ?l12 ?c12 ?k12 ?a13 ?l13 ?c13 ?k13 ?a14 ?l14 ?c14 ?k14 ?a15 ?l15 ?c15 ?k15 ?a16 ?l16 ?c16 ?k16 ?a17 ?l17 ?c17 ?k17 ?a18 ?l18 ?c18 ?k18 ?a19 ?l19 ?c19 ?k19 ?z0 ?z1 ?z2 ?z3 ?z4 ?z5 ?z6 ?z7 ?z8 ?z9 ?z10 ?z11 ?z12 ?g_BadJournal ?g_NoEntry ?g_Reading ?g_RecordError ?g_BYTE ?g_FIRST_SIGN ?g_INTEGER_BYTES ?g_LEFT_OUT ?g_NEWLINE ?g_NO_INTEGER ?g_NO_TEXT ?g_SIGNS ?g_START ?g_FORMS ?tl_KA_FORMS ?tl_KA_FORMS_0 ?tl_KA_FORMS_1 ?tl_KA_FORMS_2 ?tl_KA_FORMS_3 ?tl_KA_FORMS_4 ?tl_KA_FORMS_5 ?tl_KA_FORMS_6 ?tl_KA_FORMS_7 ?tl_KA_FORMS_8 ?tl_KA_FORMS_9 ?tl_KA_FORMS_10 ?tl_KA_FORMS_11 ?tl_KA_FORMS_12 ?tl_KA_FORMS_13 ?tl_KA_FORMS_14 ?tl_KA_FORMS_15 ?tl_KA_FORMS_16 ?tl_KA_FORMS_17 ?sq_C_BadJournal ?ss_C_BadJournal ?sm_C_BadJournal ?sv_C_BadJournal ?so_C_BadJournal ?st_C_BadJournal ?ox_C_BadJournal ?oa_C_BadJournal ?oe_C_BadJournal ?oy_C_BadJournal ?ok_C_BadJournal ?ot_C_BadJournal ?of0_C_BadJournal ?hc0 ?hp0 ?hh0 ?hn0 ?ht0 ?hc1 ?hp1 ?hh1 ?hn1 ?ht1 ?hne ?o_pg_Reading ?o_hd_Reading ?o_po_Reading ?o_sa_Reading ?o_mk_Reading ?o_kp_Reading ?r_x_NoEntry ?r_k_NoEntry ?r_bb_NoEntry ?r_tt_NoEntry ?q_ex_BadJournal_hg ?q_ex_BadJournal_hk ?q_ex_BadJournal_hs ?q_ex_BadJournal_hd ?q_ex_BadJournal_ha ?q_ex_BadJournal_hn ?q_ex_BadJournal_ht ?q_ex_BadJournal_hm ?qc_RecordError ?qt_RecordError ?qs_BadJournal_RecordError ?qb_RecordError ?qc_NoEntry ?qt_NoEntry ?qs_NoEntry_NoEntry ?qb_NoEntry ?qc_BadJournal ?qt_BadJournal ?qs_BadJournal_BadJournal ?qs_BadJournal_ValueError ?e_Reading_0 ?e_Reading_1
    (case g_BadJournal => k_is); (case g_NoEntry => k_is); (case g_Reading => k_is); (case g_RecordError => k_is); (case g_BYTE => k_is); (case g_FIRST_SIGN => k_is); (case g_INTEGER_BYTES => k_is); (case g_LEFT_OUT => k_is)
    (case g_NEWLINE => k_is); (case g_NO_INTEGER => k_is); (case g_NO_TEXT => k_is); (case g_SIGNS => k_is); (case g_START => k_is); (case g_FORMS => k_is); (case a0 => k_is); (case l0 => k_is)
    (case c0 => k_is); (case a1 => k_is); (case l1 => k_is); (case c1 => k_is); (case k1 => k_is); (case a2 => k_is); (case l2 => k_is); (case c2 => k_is)
    (case k2 => k_is); (case a3 => k_is); (case l3 => k_is); (case c3 => k_is); (case k3 => k_is); (case a4 => k_is); (case l4 => k_is); (case c4 => k_is)
    (case k4 => k_is); (case a5 => k_is); (case l5 => k_is); (case c5 => k_is); (case k5 => k_is); (case a6 => k_is); (case l6 => k_is); (case c6 => k_is)
    (case k6 => k_is); (case a7 => k_is); (case v7 => k_is); (case l7 => k_is); (case c7 => k_is); (case k7 => k_is); (case a8 => k_is); (case v8 => k_is)
    (case l8 => k_is); (case c8 => k_is); (case k8 => k_is); (case a9 => k_is); (case v9 => k_is); (case l9 => k_is); (case c9 => k_is); (case k9 => k_is)
    (case a10 => k_is); (case v10 => k_is); (case l10 => k_is); (case c10 => k_is); (case k10 => k_is); (case a11 => k_is); (case v11 => k_is); (case l11 => k_is)
    (case c11 => k_is); (case k11 => k_is); (case a12 => k_is); (case v12 => k_is); (case l12 => k_is); (case c12 => k_is); (case k12 => k_is); (case a13 => k_is)
    (case l13 => k_is); (case c13 => k_is); (case k13 => k_is); (case a14 => k_is); (case l14 => k_is); (case c14 => k_is); (case k14 => k_is); (case a15 => k_is)
    (case l15 => k_is); (case c15 => k_is); (case k15 => k_is); (case a16 => k_is); (case l16 => k_is); (case c16 => k_is); (case k16 => k_is); (case a17 => k_is)
    (case l17 => k_is); (case c17 => k_is); (case k17 => k_is); (case a18 => k_is); (case l18 => k_is); (case c18 => k_is); (case k18 => k_is); (case a19 => k_is)
    (case l19 => k_is); (case c19 => k_is); (case k19 => k_is); (case z0 => k_is); (case z1 => k_is); (case z2 => k_is); (case z3 => k_is); (case z4 => k_is)
    (case z5 => k_is); (case z6 => k_is); (case z7 => k_is); (case z8 => k_is); (case z9 => k_is); (case z10 => k_is); (case z11 => k_is); (case z12 => k_is)
    (case tl_KA_FORMS => k_is); (case tl_KA_FORMS_0 => k_is); (case tl_KA_FORMS_1 => k_is); (case tl_KA_FORMS_2 => k_is); (case tl_KA_FORMS_3 => k_is); (case tl_KA_FORMS_4 => k_is); (case tl_KA_FORMS_5 => k_is); (case tl_KA_FORMS_6 => k_is)
    (case tl_KA_FORMS_7 => k_is); (case tl_KA_FORMS_8 => k_is); (case tl_KA_FORMS_9 => k_is); (case tl_KA_FORMS_10 => k_is); (case tl_KA_FORMS_11 => k_is); (case tl_KA_FORMS_12 => k_is); (case tl_KA_FORMS_13 => k_is); (case tl_KA_FORMS_14 => k_is)
    (case tl_KA_FORMS_15 => k_is); (case tl_KA_FORMS_16 => k_is); (case tl_KA_FORMS_17 => k_is); (case sq_C_BadJournal => kernel_rfl); (case ss_C_BadJournal => k_is); (case sm_C_BadJournal => kernel_rfl); (case sv_C_BadJournal => k_is); (case so_C_BadJournal => k_is)
    (case st_C_BadJournal => kernel_rfl); (case ox_C_BadJournal => kernel_rfl); (case oa_C_BadJournal => k_is); (case oe_C_BadJournal => k_is); (case oy_C_BadJournal => k_is); (case ok_C_BadJournal => k_is); (case ot_C_BadJournal => k_is); (case of0_C_BadJournal => k_is)
    (case hc0 => k_is); (case hp0 => exact rfl); (case hh0 => kernel_rfl); (case hn0 => kernel_rfl); (case ht0 => exact PySem.W.km_tabs_of Y _ (by decide)); (case hc1 => k_is); (case hp1 => exact rfl); (case hh1 => kernel_rfl)
    (case hn1 => kernel_rfl); (case ht1 => exact PySem.W.km_tabs_of Y _ (by decide)); (case hne => decide); (case o_pg_Reading => k_is); (case o_hd_Reading => k_is); (case o_po_Reading => k_is); (case o_sa_Reading => k_is); (case o_mk_Reading => k_is)
    (case o_kp_Reading => k_is); (case r_x_NoEntry => k_exc); (case r_k_NoEntry => k_is); (case r_bb_NoEntry => k_is); (case r_tt_NoEntry => k_is); (case q_ex_BadJournal_hg => k_is); (case q_ex_BadJournal_hk => k_is); (case q_ex_BadJournal_hs => k_is)
    (case q_ex_BadJournal_hd => k_is); (case q_ex_BadJournal_ha => k_is); (case q_ex_BadJournal_hn => k_is); (case q_ex_BadJournal_ht => k_is); (case q_ex_BadJournal_hm => k_is); (case qc_RecordError => k_is); (case qt_RecordError => k_is); (case qs_BadJournal_RecordError => k_is)
    (case qb_RecordError => k_is); (case qc_NoEntry => k_is); (case qt_NoEntry => k_is); (case qs_NoEntry_NoEntry => k_is); (case qb_NoEntry => k_is); (case qc_BadJournal => k_is); (case qt_BadJournal => k_is); (case qs_BadJournal_BadJournal => k_is)
    (case qs_BadJournal_ValueError => k_is); (case e_Reading_0 => k_is); (case e_Reading_1 => k_is)
