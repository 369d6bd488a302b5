import PyProof.Rows.All
import Wide.All
import OpenK.AllK
import Wide.FinOn
import HandS.Small
import HandS.ForMost
import HandS.Exc
import HandS.TryOnly
import HandS.ExcOwn
import HandS.WordsExc
import HandS.IsInst
import HandS.Wide
import HandS.TupAny
import HandS.Flow
import HandS.RaiseMore
import HandS.Deep
import HandS.EndBits
import HandS.Style
import HandS.ExcIs
import PySem.Challenge.RW_recstore_k14_works_woven
set_option Elab.async false
set_option linter.all false
set_option maxRecDepth 100000
set_option maxHeartbeats 8000000
namespace Rs
open PySem PySem.Spec PyProof.Rows L2

/-! ### what is known of a heap: a ledger -/
mutual
/-- data that never changes -/
inductive Im (K : PySem.W.Frag) (H : Hp) : V → PyData → Prop
  | non : Im K H .non .none
  | bl (b : Bool) : Im K H (.bl b) (.bool b)
  | int (i : Int) : Im K H (.int i) (.int i)
  | str (x : Str) : Im K H (.str x) (.str x)
  | tup {a : Addr} {xs : List V} {ds : List PyData} : SqT K H a xs → Ims K H xs ds → Im K H (.ref a) (.tuple ds)
inductive Ims (K : PySem.W.Frag) (H : Hp) : List V → List PyData → Prop
  | nil : Ims K H [] []
  | cons {v : V} {vs : List V} {d : PyData} {ds : List PyData} : Im K H v d → Ims K H vs ds → Ims K H (v :: vs) (d :: ds)
end
/-- an entry: a thing, or a list of data that never changes -/
inductive Ent | raw (o : HO) | dl (ds : List PyData)
def EntAt (K : PySem.W.Frag) (H : Hp) (a : Addr) : Ent → Prop
  | .raw o => H a = some o
  | .dl ds => ∃ xs, H a = some (.lst xs) ∧ Ims K H xs ds
/-- all is as it was, but at S -/
def KBs (H H' : Hp) (S : List Addr) : Prop := ∀ b o, H b = some o → b ∉ S → H' b = some o
/-- no tuple stands at S -/
def NoT (H : Hp) (S : List Addr) : Prop := ∀ a ∈ S, ∀ xs, H a ≠ some (.tup xs) ∧ ∀ o, H a ≠ some (.frz o (.tup xs))
section
variable {K : PySem.W.Frag} {H H' : Hp} {S : List Addr}
theorem KBs.refl : KBs H H S := fun _ _ h _ => h
theorem KBs.trans {H1 H2 : Hp} (a : KBs H H1 S) (b : KBs H1 H2 S) : KBs H H2 S := fun c o h n => b c o (a c o h n) n
theorem KBs.mono {T : List Addr} (a : KBs H H' S) (h : ∀ x ∈ S, x ∈ T) : KBs H H' T := fun c o e n => a c o e fun m => n (h c m)
theorem KBs.of (a : Same H H') : KBs H H' S := fun c o e _ => a c o e
theorem KBs.same (a : KBs H H' []) : Same H H' := fun c o e => a c o e (by simp)
theorem sqT_keep {a : Addr} {xs : List V} (k : KBs H H' S) (n : NoT H S) (h : SqT K H a xs) : SqT K H' a xs := by
  rcases h with (h | ⟨o, h⟩) | h
  · refine .inl (.inl (k _ _ h fun m => ?_))
    exact (n a m xs).1 h
  · refine .inl (.inr ⟨o, k _ _ h fun m => ?_⟩)
    exact (n a m xs).2 o h
  · exact .inr h

mutual
theorem Im.keep (k : KBs H H' S) (n : NoT H S) : ∀ {v : V} {d : PyData}, Im K H v d → Im K H' v d
  | _, _, .non => .non
  | _, _, .bl b => .bl b
  | _, _, .int i => .int i
  | _, _, .str x => .str x
  | _, _, .tup h hs => .tup (sqT_keep k n h) (Ims.keep k n hs)
theorem Ims.keep (k : KBs H H' S) (n : NoT H S) : ∀ {vs : List V} {ds : List PyData}, Ims K H vs ds → Ims K H' vs ds
  | _, _, .nil => .nil
  | _, _, .cons h hs => .cons (Im.keep k n h) (Ims.keep k n hs)
end
theorem NoT.nil : NoT H [] := fun _ h => by cases h
theorem Im.same (k : Same H H') {v : V} {d : PyData} (h : Im K H v d) : Im K H' v d := Im.keep (S := []) (KBs.of k) NoT.nil h
theorem Ims.same (k : Same H H') {v : List V} {d : List PyData} (h : Ims K H v d) : Ims K H' v d := Ims.keep (S := []) (KBs.of k) NoT.nil h
theorem Ims.len : ∀ {vs : List V} {ds : List PyData}, Ims K H vs ds → vs.length = ds.length
  | _, _, .nil => rfl
  | _, _, .cons _ h => by rw [List.length_cons, List.length_cons, Ims.len h]
theorem Ims.get : ∀ {vs : List V} {ds : List PyData} {i : Nat} {v : V}, Ims K H vs ds → vs[i]? = some v → ∃ d, ds[i]? = some d ∧ Im K H v d
  | _, _, i, v, .nil, e => by simp at e
  | _, _, 0, v, .cons h _, e => by
    have e' := Option.some.inj e
    subst e'
    exact ⟨_, rfl, h⟩
  | _, _, i + 1, v, .cons _ h, e => Ims.get (i := i) h e
theorem Ims.get' : ∀ {vs : List V} {ds : List PyData} {i : Nat} {d : PyData}, Ims K H vs ds → ds[i]? = some d → ∃ v, vs[i]? = some v ∧ Im K H v d
  | _, _, i, v, .nil, e => by simp at e
  | _, _, 0, v, .cons h _, e => by
    have e' := Option.some.inj e
    subst e'
    exact ⟨_, rfl, h⟩
  | _, _, i + 1, v, .cons _ h, e => Ims.get' (i := i) h e
theorem Ims.app : ∀ {vs ws : List V} {ds es : List PyData}, Ims K H vs ds → Ims K H ws es → Ims K H (vs ++ ws) (ds ++ es)
  | _, _, _, _, .nil, h => h
  | _, _, _, _, .cons a b, h => .cons a (Ims.app b h)
theorem Ims.one {v : V} {d : PyData} (h : Im K H v d) : Ims K H [v] [d] := .cons h .nil
theorem Ims.ints : ∀ {vs : List V} {ns : List Int}, Ims K H vs (ns.map PyData.int) → vs = ns.map V.int
  | _, [], .nil => rfl
  | _, n :: ns, .cons h t => by
    cases h
    rw [Ims.ints t]
    rfl
theorem Ims.of_ints : ∀ ns : List Int, Ims K H (ns.map V.int) (ns.map PyData.int)
  | [] => .nil
  | n :: ns => .cons (.int n) (Ims.of_ints ns)
theorem Ims.take (n : Nat) : ∀ {vs : List V} {ds : List PyData}, Ims K H vs ds → Ims K H (vs.take n) (ds.take n) := by
  induction n with
  | zero => intro vs ds _; exact .nil
  | succ n ih =>
    intro vs ds h
    cases h with
    | nil => exact .nil
    | cons a b => exact .cons a (ih b)
theorem Ims.drop (n : Nat) : ∀ {vs : List V} {ds : List PyData}, Ims K H vs ds → Ims K H (vs.drop n) (ds.drop n) := by
  induction n with
  | zero => intro vs ds h; exact h
  | succ n ih =>
    intro vs ds h
    cases h with
    | nil => exact .nil
    | cons a b => exact ih b
mutual
theorem Im.dp : ∀ {v : V} {d : PyData}, Im K H v d → Dp K H v d
  | _, _, .non => .non
  | _, _, .bl b => .bl b
  | _, _, .int i => .int i
  | _, _, .str x => .str x
  | _, _, .tup h hs => .tup h (Ims.dp hs)
theorem Ims.dp : ∀ {vs : List V} {ds : List PyData}, Ims K H vs ds → DpAll K H vs ds
  | _, _, .nil => .nil
  | _, _, .cons h hs => .cons (Im.dp h) (Ims.dp hs)
end
/-- what the entry tells stays -/
theorem EntAt.keep {a : Addr} {e : Ent} (k : KBs H H' S) (n : NoT H S) (ha : a ∉ S) (h : EntAt K H a e) : EntAt K H' a e := by
  cases e with
  | raw o => exact k _ _ h ha
  | dl ds =>
    obtain ⟨xs, h1, h2⟩ := h
    exact ⟨xs, k _ _ h1 ha, h2.keep k n⟩
theorem EntAt.some {a : Addr} {e : Ent} (h : EntAt K H a e) : ∃ o, H a = some o := by
  cases e with
  | raw o => exact ⟨o, h⟩
  | dl ds =>
    obtain ⟨xs, h1, _⟩ := h
    exact ⟨_, h1⟩
end

/-- the ledger: H0 the heap at the entry, S what may have changed of it since; L: what is known of lists and objects, I: of data -/
structure Led (K : PySem.W.Frag) (H0 : Hp) (S : List Addr) (H : Hp) (L : List (Addr × Ent)) (I : List (V × PyData)) : Prop where
  nd : (L.map (·.1)).Nodup
  at_ : ∀ (n : Nat) a e, L[n]? = some (a, e) → EntAt K H a e
  im : ∀ (n : Nat) v d, I[n]? = some (v, d) → Im K H v d
  kp : KBs H0 H S
section
variable {K : PySem.W.Frag} {H0 H H' : Hp} {S : List Addr} {L : List (Addr × Ent)} {I : List (V × PyData)}
theorem Led.start : Led K H S H [] [] := ⟨List.nodup_nil, fun n a e h => by simp at h, fun n v d h => by simp at h, KBs.refl⟩
theorem Led.raw (h : Led K H0 S H L I) (n : Nat) {a : Addr} {o : HO} (e : L[n]? = some (a, .raw o)) : H a = some o := h.at_ n a _ e
/-- fresh now is fresh at the entry -/
theorem fresh0 (h : KBs H0 H S) {p : Addr} (hs : p ∉ S) (e : H p = none) : H0 p = none := by
  cases q : H0 p with
  | none => rfl
  | some o =>
    rw [h p o q hs] at e
    cases e
theorem Led.notin (h : Led K H0 S H L I) {p : Addr} (e : H p = none) : p ∉ L.map (·.1) := fun m => by
  obtain ⟨⟨a, x⟩, h1, h2⟩ := List.mem_map.mp m
  obtain ⟨n, hn, h3⟩ := List.getElem_of_mem h1
  have h4 : L[n]? = some (a, x) := by rw [List.getElem?_eq_getElem hn, h3]
  obtain ⟨o, h5⟩ := (h.at_ n a x h4).some
  have h6 : a = p := h2
  subst h6
  rw [h5] at e
  cases e
theorem Led.same (h : Led K H0 S H L I) (k : Same H H') : Led K H0 S H' L I :=
  ⟨h.nd, fun n a e q => (h.at_ n a e q).keep (S := []) (KBs.of k) NoT.nil (by simp), fun n v d q => (h.im n v d q).same k, h.kp.trans (KBs.of k)⟩
/-- a new entry -/
theorem Led.new (h : Led K H0 S H L I) (k : Same H H') {p : Addr} {e : Ent} (hn : H p = none) (he : EntAt K H' p e) : Led K H0 S H' ((p, e) :: L) I := by
  have h1 := h.same k
  refine ⟨?_, fun n a x q => ?_, h1.im, h1.kp⟩
  · rw [List.map_cons, List.nodup_cons]
    exact ⟨h.notin hn, h.nd⟩
  · cases n with
    | zero =>
      have q' := Option.some.inj q
      cases q'
      exact he
    | succ n => exact h1.at_ n a x q
theorem same_new {p : Addr} {o : HO} (h : H p = none) : Same H (upd H p o) := fun b x e => by
  rw [upd_ne (ne_of_none e h)]
  exact e
theorem Led.alloc (h : Led K H0 S H L I) {p : Addr} {o : HO} (hn : H p = none) : Led K H0 S (upd H p o) ((p, .raw o) :: L) I := h.new (same_new hn) hn upd_same
theorem Led.allocD (h : Led K H0 S H L I) {p : Addr} {xs : List V} {ds : List PyData} (hn : H p = none) (hd : Ims K H xs ds) : Led K H0 S (upd H p (.lst xs)) ((p, .dl ds) :: L) I :=
  h.new (same_new hn) hn ⟨xs, upd_same, hd.same (same_new hn)⟩
/-- a new fact on data -/
theorem Led.imNew (h : Led K H0 S H L I) {v : V} {d : PyData} (hi : Im K H v d) : Led K H0 S H L ((v, d) :: I) :=
  ⟨h.nd, h.at_, fun n x y q => by
    cases n with
    | zero =>
      have q' := Option.some.inj q
      cases q'
      exact hi
    | succ n => exact h.im n x y q, h.kp⟩
theorem Led.allocT (h : Led K H0 S H L I) {p : Addr} {xs : List V} {ds : List PyData} (hn : H p = none) (hd : Ims K H xs ds) : Led K H0 S (upd H p (.tup xs)) L ((.ref p, .tuple ds) :: I) :=
  (h.same (same_new hn)).imNew (.tup (SqT.of upd_same) (hd.same (same_new hn)))
def isMut : HO → Bool
  | .tup _ => false
  | .frz _ _ => false
  | _ => true
theorem NoT.one {a : Addr} {o : HO} (h : H a = some o) (hm : isMut o = true) : NoT H [a] := fun b hb xs => by
  have e : b = a := by simpa using hb
  subst e
  refine ⟨fun q => ?_, fun u q => ?_⟩
  · rw [h] at q
    cases q
    exact Bool.false_ne_true hm
  · rw [h] at q
    cases q
    exact Bool.false_ne_true hm
/-- the n-th entry changes -/
theorem Led.wr (h : Led K H0 S H L I) (n : Nat) {a : Addr} {e e' : Ent} {o : HO} (q : L[n]? = some (a, e)) (k : KBs H H' [a]) (ho : H a = some o) (hm : isMut o = true) (he : EntAt K H' a e') (hs : H0 a = none ∨ a ∈ S) : Led K H0 S H' (L.set n (a, e')) I := by
  have hN := NoT.one ho hm
  have hn : n < L.length := (List.getElem?_eq_some_iff.mp q).1
  refine ⟨?_, fun m b x r => ?_, fun m v d r => (h.im m v d r).keep k hN, fun b x r hb => ?_⟩
  · have e2 : (L.set n (a, e')).map (·.1) = L.map (·.1) := by
      rw [List.map_set]
      refine List.ext_getElem? fun i => ?_
      by_cases hi : n = i
      · subst hi
        rw [List.getElem?_set_self (by rw [List.length_map]; exact hn), List.getElem?_map, q]
        rfl
      · rw [List.getElem?_set_ne hi]
    rw [e2]
    exact h.nd
  · by_cases hm' : n = m
    · subst hm'
      rw [List.getElem?_set_self hn] at r
      cases r
      exact he
    · rw [List.getElem?_set_ne hm'] at r
      refine (h.at_ m b x r).keep k hN fun hb => ?_
      have e3 : b = a := by simpa using hb
      subst e3
      have r1 : (L.map (·.1))[m]? = some b := by
        rw [List.getElem?_map, r]
        rfl
      have r2 : (L.map (·.1))[n]? = some b := by
        rw [List.getElem?_map, q]
        rfl
      exact hm' (nd_ix h.nd r2 r1)
  · refine k b x (h.kp b x r hb) fun z => ?_
    have e3 : b = a := by simpa using z
    subst e3
    rcases hs with hs | hs
    · rw [r] at hs
      cases hs
    · exact hb hs
/-- entries that are no longer wanted -/
theorem Led.take (h : Led K H0 S H L I) (L' : List (Addr × Ent)) (I' : List (V × PyData)) (f : List Nat) (g : List Nat) (hf : f.Nodup) (h1 : L'.length = f.length) (h2 : ∀ (i n : Nat), f[i]? = some n → L'[i]? = L[n]?) (h3 : I'.length = g.length) (h4 : ∀ (i n : Nat), g[i]? = some n → I'[i]? = I[n]?) : Led K H0 S H L' I' := by
  have nth : ∀ (i : Nat) a e, L'[i]? = some (a, e) → ∃ n, f[i]? = some n ∧ L[n]? = some (a, e) := fun i a e q => by
    have hi : i < f.length := by rw [← h1]; exact (List.getElem?_eq_some_iff.mp q).1
    refine ⟨f[i], List.getElem?_eq_getElem hi, ?_⟩
    rw [← h2 i f[i] (List.getElem?_eq_getElem hi)]
    exact q
  refine ⟨?_, fun i a e q => ?_, fun i v d q => ?_, h.kp⟩
  · refine List.pairwise_iff_getElem.mpr fun i j hi' hj' hij e => ?_
    have hi : i < L'.length := by rw [← List.length_map (f := (·.1))]; exact hi'
    have hj : j < L'.length := by rw [← List.length_map (f := (·.1))]; exact hj'
    obtain ⟨n, fn, ln⟩ := nth i L'[i].1 L'[i].2 (List.getElem?_eq_getElem hi)
    obtain ⟨m, fm, lm⟩ := nth j L'[j].1 L'[j].2 (List.getElem?_eq_getElem hj)
    have ea : L'[i].1 = L'[j].1 := by
      rw [List.getElem_map, List.getElem_map] at e
      exact e
    have r1 : (L.map (·.1))[n]? = some L'[i].1 := by
      rw [List.getElem?_map, ln]
      rfl
    have r2 : (L.map (·.1))[m]? = some L'[i].1 := by
      rw [List.getElem?_map, lm, ea]
      rfl
    have en := nd_ix h.nd r1 r2
    subst en
    exact absurd (nd_ix hf fn fm) (Nat.ne_of_lt hij)
  · obtain ⟨n, _, ln⟩ := nth i a e q
    exact h.at_ n a e ln
  · have hi : i < g.length := by rw [← h3]; exact (List.getElem?_eq_some_iff.mp q).1
    have q2 := h4 i g[i] (List.getElem?_eq_getElem hi)
    rw [q] at q2
    exact h.im _ v d q2.symm
end

abbrev RCall := List V → Hp → VK → Prop
abbrev RSl := V → Option Int → Option Int → Hp → VK → Prop
abbrev RMt := V → List V → Hp → VK → Prop
theorem u65 {k : Nat} {A : Around} (r : Room k A) : A.units + 65 < cLine := by have := r.un; omega

/-! ### readings that compute -/
def lk : L2.St → Nat → Option V
  | [], _ => none
  | x :: _, 0 => x
  | _ :: σ, n + 1 => lk σ n
theorem lk_get : ∀ {σ : L2.St} {i : Nat} {v : V}, lk σ i = some v → σ[i]? = some (some v)
  | [], _, _, h => nomatch h
  | x :: _, 0, v, h => by
    have h' : x = some v := h
    rw [h']
    rfl
  | _ :: σ, n + 1, v, h => lk_get (σ := σ) (i := n) h
def mV (i : Nat) : TE := fun σ H Q => match lk σ i with
  | some v => Q v H
  | none => False
theorem mV_ok {i : Nat} {σ : L2.St} {H : Hp} {Q : VK} (h : mV i σ H Q) : tVar i σ H Q := by
  unfold mV at h
  cases e : lk σ i with
  | none => rw [e] at h; exact h.elim
  | some v => rw [e] at h; exact ⟨v, lk_get e, h⟩
def rOr (r s : R2) : R2 := fun x y H Q => r x y H Q ∨ s x y H Q
/-- two ints -/
def mI (c : Int → Int → Prop) (f : Int → Int → V) : R2 := fun x y H Q => match x, y with
  | .int i, .int j => c i j ∧ Q (f i j) H
  | _, _ => False
def mI0 (f : Int → Int → V) : R2 := fun x y H Q => match x, y with
  | .int i, .int j => Q (f i j) H
  | _, _ => False
def hAdd (K : PySem.W.Frag) : R2 := fun x y H Q => rCat x y H Q ∨ rCatA K x y H Q
def mAdd (K : PySem.W.Frag) : R2 := fun x y H Q => match x, y with
  | .int i, .int j => Q (.int (i + j)) H
  | .str a, .str b => a.length + b.length ≤ sizeLine ∧ Q (.str (a ++ b)) H
  | .ref a, .ref b => hAdd K (.ref a) (.ref b) H Q
  | _, _ => False
def mSub : R2 := mI0 fun i j => .int (i - j)
def mMul : R2 := fun x y H Q => match x, y with
  | .int i, .int j => CMul i j ∧ Q (.int (i * j)) H
  | .ref a, .int j => rRep (.ref a) (.int j) H Q
  | _, _ => False
def mFdiv : R2 := mI CDivW fun i j => .int (i / j)
def mMod : R2 := mI (fun _ j => 0 < j) fun i j => .int (i % j)
def mPow : R2 := mI CPow fun i j => .int (i ^ j.toNat)
def mShl : R2 := mI CPow fun i j => .int (i * 2 ^ j.toNat)
def mShr : R2 := mI (fun _ j => 0 ≤ j) fun i j => .int (i / 2 ^ j.toNat)
def mLt : R2 := mI0 fun i j => .bl (decide (i < j))
def mLe : R2 := mI0 fun i j => .bl (decide (i ≤ j))
def mGt : R2 := mI0 fun i j => .bl (decide (j < i))
def mGe : R2 := mI0 fun i j => .bl (decide (j ≤ i))
def hEq (K : PySem.W.Frag) : R2 := rOr rEq (rEqD K)
def mEq (K : PySem.W.Frag) : R2 := fun x y H Q => match x, y with
  | .int i, .int j => Q (.bl (decide (i = j))) H
  | .str i, .str j => Q (.bl (decide (i = j))) H
  | .bl i, .bl j => Q (.bl (decide (i = j))) H
  | .non, .non => Q (.bl true) H
  | .str _, .non => Q (.bl false) H
  | .int _, .non => Q (.bl false) H
  | .non, .str _ => Q (.bl false) H
  | .non, .int _ => Q (.bl false) H
  | x, y => hEq K x y H Q
def hNe (K : PySem.W.Frag) : R2 := rOr rNe (rNeD K)
def mNe (K : PySem.W.Frag) : R2 := fun x y H Q => match x, y with
  | .int i, .int j => Q (.bl (!decide (i = j))) H
  | .str i, .str j => Q (.bl (!decide (i = j))) H
  | .bl i, .bl j => Q (.bl (!decide (i = j))) H
  | .non, .non => Q (.bl false) H
  | .str _, .non => Q (.bl true) H
  | .int _, .non => Q (.bl true) H
  | .non, .str _ => Q (.bl true) H
  | .non, .int _ => Q (.bl true) H
  | x, y => hNe K x y H Q
def mIsN : R2 := fun x y H Q => match y with
  | .non => Q (.bl (match x with | .non => true | _ => false)) H
  | _ => False
def mNotN : R2 := fun x y H Q => match y with
  | .non => Q (.bl (match x with | .non => false | _ => true)) H
  | _ => False
def mNeg : V → Hp → VK → Prop := fun x H Q => match x with
  | .int i => Q (.int (-i)) H
  | _ => False
/-- a Bool is wanted -/
def toB (Q : Bool → Hp → Prop) (x : V) (H : Hp) : Prop := match x with
  | .bl b => Q b H
  | _ => False
def mTest (t : TE) : TT := fun σ H Q => t σ H (toB Q)
def hTru (K : PySem.W.Frag) (x : V) (H : Hp) (Q : Bool → Hp → Prop) : Prop := ∃ k, TruV K x H k ∧ Q k H
def mTr (K : PySem.W.Frag) (t : TE) : TT := fun σ H Q => t σ H fun x H1 => match x with
  | .bl b => Q b H1
  | .int i => Q (i != 0) H1
  | .non => Q false H1
  | x => hTru K x H1 Q
def toV (Q : Bool → Hp → Prop) : VK := fun x H => match x with
  | .bl b => Q b H
  | _ => False
def mAndV (ta tb : TE) : TE := fun σ H Q => ta σ H (toB fun c H1 => if c = true then tb σ H1 Q else Q (.bl false) H1)
def mOrV (ta tb : TE) : TE := fun σ H Q => ta σ H (toB fun c H1 => if c = true then Q (.bl true) H1 else tb σ H1 Q)
def mNotV (ta : TE) : TE := fun σ H Q => ta σ H (toB fun c H1 => Q (.bl (!c)) H1)
def mInt : RCall := fun xs H Q => match xs with
  | [.int i] => Q (.int i) H
  | [.bl b] => Q (.int (if b then 1 else 0)) H
  | _ => False
def mPart (t : TE) : TO := fun σ H Q => t σ H fun x H1 => match x with
  | .int i => Q (some i) H1
  | _ => False
/-- an if, its test known: the ways -/
def Br (b : Bool) (t u : TS) (D : Ends) (σ : L2.St) (H : Hp) : Prop := if b = true then t D σ H else u D σ H
def BrE (b : Bool) (t u : TE) (Q : VK) (σ : L2.St) (H : Hp) : Prop := if b = true then t σ H Q else u σ H Q
def mIf (c : TT) (t u : TS) : TS := fun D σ H => c σ H fun b H1 => Br b t u D σ H1
def mIfE (c : TT) (t u : TE) : TE := fun σ H Q => c σ H fun b H1 => BrE b t u Q σ H1
def mAug (i : Nat) (te : TE) (r : R2) : TS := fun D σ H => match lk σ i with
  | some x => te σ H fun y H1 => r x y H1 fun z H2 => D.nx (σ.set i (some z)) H2
  | none => False
def uSl (K : PySem.W.Frag) : RSl := fun x lo hi H Q => rSlL K x lo hi H Q ∨ rSlA K x lo hi H Q ∨ rSlS x lo hi H Q
def uIn (K : PySem.W.Frag) : R2 := rOr (rIn K false) (rInD K)
def uNin (K : PySem.W.Frag) : R2 := rOr (rIn K true) (rNotInD K)
def hLen (K : PySem.W.Frag) : RCall := fun xs H Q => ∃ x n, xs = [x] ∧ LenV K x H n ∧ Q (.int (n : Nat)) H
def hListOf (K : PySem.W.Frag) : RCall := fun xs H Q => ∃ p ys, xs = [.ref p] ∧ (SqL K H p ys ∨ SqT K H p ys) ∧ ∀ l, H l = none → Q (.ref l) (upd H l (.lst ys))
def hTupOf (K : PySem.W.Frag) : RCall := fun xs H Q => ∃ p ys, xs = [.ref p] ∧ ((SqL K H p ys ∧ ∀ l, H l = none → Q (.ref l) (upd H l (.tup ys))) ∨ (SqT K H p ys ∧ Q (.ref p) H))
/-- repr of data -/
def hRepr (K : PySem.W.Frag) : RCall := fun xs H Q => ∃ x d, xs = [x] ∧ Dp K H x d ∧ d.showable = true ∧ d.hasDict = false ∧ d.depth ≤ 60 ∧ d.shown.length ≤ sizeLine ∧ Q (.str d.shown) H
def mAbs : RCall := fun xs H Q => match xs with
  | [.int i] => Q (.int (if i < 0 then -i else i)) H
  | _ => False

/-! ### their rules -/
section
variable {X : Cx}
theorem PE.weak {e : Expr} {t t' : TE} (h : PE X e t) (w : ∀ σ H Q, t' σ H Q → t σ H Q) : PE X e t' := ⟨fun pins s σ H Q I hw => h.run pins s σ H Q I (w σ H Q hw)⟩
theorem PT.weak {e : Expr} {t t' : TT} (h : PT X e t) (w : ∀ σ H Q, t' σ H Q → t σ H Q) : PT X e t' := ⟨fun pins s σ H Q I hw => h.run pins s σ H Q I (w σ H Q hw)⟩
theorem PS.weak {st : Stmt} {t t' : TS} (h : PS X st t) (w : ∀ D σ H, t' D σ H → t D σ H) : PS X st t' := ⟨fun pins s σ H D I hw => h.run pins s σ H D I (w D σ H hw)⟩
theorem OpR.weak {f : Value → Value → Sem Value} {r r' : R2} (h : OpR X f r) (w : ∀ x y H Q, r' x y H Q → r x y H Q) : OpR X f r' := fun pins s σ H x y v u Q I a b hw => h pins s σ H x y v u Q I a b (w x y H Q hw)
theorem OpR.or {f : Value → Value → Sem Value} {r s : R2} (h1 : OpR X f r) (h2 : OpR X f s) : OpR X f (rOr r s) := fun pins sh σ H x y v u Q I a b h => h.elim (h1 pins sh σ H x y v u Q I a b) (h2 pins sh σ H x y v u Q I a b)
theorem CallR.weak {f : Value} {r r' : RCall} (h : CallR X f r) (w : ∀ xs H Q, r' xs H Q → r xs H Q) : CallR X f r' := fun pins s σ H xs us Q I a hw => h pins s σ H xs us Q I a (w xs H Q hw)
theorem SlR.or {r s : RSl} (h1 : SlR X r) (h2 : SlR X s) : SlR X (fun x lo hi H Q => r x lo hi H Q ∨ s x lo hi H Q) := fun pins sh σ H x v vl vu lo hi sl Q I rx hs pl pu h =>
  h.elim (h1 pins sh σ H x v vl vu lo hi sl Q I rx hs pl pu) (h2 pins sh σ H x v vl vu lo hi sl Q I rx hs pl pu)
/-- the name in slot i -/
theorem pn (i : Nat) {x : Str} {pos : Pos} (hN : X.N[i]? = some x := by rfl) (hv : Vis X.env.scope x := by first | exact Or.inl rfl | exact Or.inr (Or.inl rfl) | exact Or.inr (Or.inr rfl)) (hd : (x == ("__debug__" : Str)) = false := by decide)
    (hcd : (x == ("__classdict__" : Str)) = false := by decide) : PE X (.Name x pos) (mV i) := PE.weak (pe_var hN hv hd hcd) fun _ _ _ h => mV_ok h
theorem mI_ok {c : Int → Int → Prop} {f : Int → Int → V} {x y : V} {H : Hp} {Q : VK} (h : mI c f x y H Q) : rI c f x y H Q := by
  cases x <;> cases y <;> first | exact h.elim | exact ⟨_, _, rfl, rfl, h.1, h.2⟩
theorem mI0_ok {f : Int → Int → V} {x y : V} {H : Hp} {Q : VK} (h : mI0 f x y H Q) : rI0 f x y H Q := by
  cases x <;> cases y <;> first | exact h.elim | exact ⟨_, _, rfl, rfl, h⟩
theorem o_add : OpR X (binaryOp .Add) (mAdd X.K) := OpR.weak (OpR.or op_add (OpR.or op_add_str (OpR.or op_cat op_catA))) fun x y H Q h => by
  cases x <;> cases y <;> first | exact h.elim | exact .inl ⟨_, _, rfl, rfl, h⟩ | exact .inr (.inl ⟨_, _, rfl, rfl, h.1, h.2⟩) | exact .inr (.inr h)
theorem o_sub : OpR X (binaryOp .Sub) mSub := OpR.weak op_sub fun _ _ _ _ h => mI0_ok h
theorem o_mul : OpR X (binaryOp .Mult) mMul := OpR.weak (OpR.or op_mul op_rep) fun x y H Q h => by
  cases x <;> cases y <;> first | exact h.elim | exact .inl ⟨_, _, rfl, rfl, h.1, h.2⟩ | exact .inr h
theorem o_fdiv : OpR X (binaryOp .FloorDiv) mFdiv := OpR.weak op_fdivW fun _ _ _ _ h => mI_ok h
theorem o_mod : OpR X (binaryOp .Mod) mMod := OpR.weak op_mod fun _ _ _ _ h => mI_ok h
theorem o_pow : OpR X (binaryOp .Pow) mPow := OpR.weak op_pow fun _ _ _ _ h => mI_ok h
theorem o_shl : OpR X (binaryOp .LShift) mShl := OpR.weak op_shl fun _ _ _ _ h => mI_ok h
theorem o_shr : OpR X (binaryOp .RShift) mShr := OpR.weak op_shr fun _ _ _ _ h => mI_ok h
theorem o_lt : OpR X (compareOp .Lt) mLt := OpR.weak op_lt fun _ _ _ _ h => mI0_ok h
theorem o_le : OpR X (compareOp .LtE) mLe := OpR.weak op_le fun _ _ _ _ h => mI0_ok h
theorem o_gt : OpR X (compareOp .Gt) mGt := OpR.weak op_gt fun _ _ _ _ h => mI0_ok h
theorem o_ge : OpR X (compareOp .GtE) mGe := OpR.weak op_ge fun _ _ _ _ h => mI0_ok h
theorem dec_of {α β : Type} [DecidableEq α] [DecidableEq β] (f : α → β) (inj : ∀ a b, f a = f b → a = b) (a b : α) : decide (f a = f b) = decide (a = b) := by
  by_cases h : a = b
  · rw [h, decide_eq_true rfl, decide_eq_true rfl]
  · rw [decide_eq_false h, decide_eq_false fun e => h (inj a b e)]
theorem o_eq (hu : X.A.units + 64 < cLine) : OpR X (compareOp .Eq) (mEq X.K) := OpR.weak (OpR.or op_eq (op_eqD hu)) fun x y H Q h => by
  cases x <;> cases y <;>
    first
      | exact h
      | exact .inl ⟨rfl, by rw [dec_of V.int fun a b e => V.int.inj e]; exact h⟩
      | exact .inl ⟨rfl, by rw [dec_of V.str fun a b e => V.str.inj e]; exact h⟩
      | exact .inl ⟨rfl, by rw [dec_of V.bl fun a b e => V.bl.inj e]; exact h⟩
      | exact .inl ⟨rfl, h⟩
theorem o_ne (hu : X.A.units + 64 < cLine) : OpR X (compareOp .NotEq) (mNe X.K) := OpR.weak (OpR.or op_ne (op_neD hu)) fun x y H Q h => by
  cases x <;> cases y <;>
    first
      | exact h
      | exact .inl ⟨rfl, by rw [dec_of V.int fun a b e => V.int.inj e]; exact h⟩
      | exact .inl ⟨rfl, by rw [dec_of V.str fun a b e => V.str.inj e]; exact h⟩
      | exact .inl ⟨rfl, by rw [dec_of V.bl fun a b e => V.bl.inj e]; exact h⟩
      | exact .inl ⟨rfl, h⟩
theorem o_isN : OpR X (compareOp .Is) mIsN := OpR.weak op_isN fun x y H Q h => by
  cases y <;> first | exact h.elim | (refine ⟨rfl, ?_⟩; cases x <;> exact h)
theorem o_notN : OpR X (compareOp .IsNot) mNotN := OpR.weak op_notN fun x y H Q h => by
  cases y <;> first | exact h.elim | (refine ⟨rfl, ?_⟩; cases x <;> exact h)
theorem o_in (hu : X.A.units + 65 < cLine) : OpR X (compareOp .In) (uIn X.K) := OpR.or op_in_seq (op_inD hu)
theorem o_nin (hu : X.A.units + 65 < cLine) : OpR X (compareOp .NotIn) (uNin X.K) := OpR.or op_notIn_seq (op_notInD hu)
theorem o_neg : UnR X (unaryOp .USub) mNeg := fun pins s σ H x v Q I r h => un_neg pins s σ H x v Q I r (by
  cases x <;> first | exact h.elim | exact ⟨_, rfl, h⟩)
theorem o_sl : SlR X (uSl X.K) := SlR.or sl_list (SlR.or sl_tupA sl_str)
theorem toB_ok {Q : Bool → Hp → Prop} {x : V} {H : Hp} (h : toB Q x H) : ∃ k, x = .bl k ∧ Q k H := by
  cases x <;> first | exact h.elim | exact ⟨_, rfl, h⟩
theorem toB_eq (Q : Bool → Hp → Prop) : toB Q = fun x H => ∃ k, x = .bl k ∧ Q k H := by
  funext x H
  refine propext ⟨toB_ok, fun h => ?_⟩
  obtain ⟨k, rfl, q⟩ := h
  exact q
theorem m_test {e : Expr} {t : TE} (h : PT X e (tTest t)) : PT X e (mTest t) := PT.weak h fun σ H Q q => by
  unfold mTest at q
  rw [toB_eq] at q
  exact q
theorem tru_eq {K : PySem.W.Frag} (Q : Bool → Hp → Prop) : (fun (x : V) (H1 : Hp) => match x with
  | .bl b => Q b H1
  | .int i => Q (i != 0) H1
  | .non => Q false H1
  | x => hTru K x H1 Q) = fun x H' => ∃ k, TruV K x H' k ∧ Q k H' := by
  funext x H
  refine propext ?_
  cases x <;>
    first
      | exact Iff.rfl
      | exact ⟨fun h => ⟨_, rfl, h⟩, fun ⟨k, e, q⟩ => by cases (show k = _ from e); exact q⟩
theorem p_truth {a : Expr} {ta : TE} (h : PE X a ta) (he : ∀ whole, isTrue a X.env whole = (do let v ← whole; standAt a.pos; holding [v] (truthy v))) : PT X a (mTr X.K ta) := PT.weak (pt_truth h he) fun σ H Q q => by
  unfold mTr at q
  rw [tru_eq] at q
  exact q
theorem p_or {op : BoolOp} {a b : Expr} {rest : List Expr} {ta tb : TE} {pos : Pos} (ha : PE X a ta) (hb : PE X (.BoolOp .Or (b :: rest) pos) tb) : PE X (.BoolOp .Or (a :: b :: rest) pos) (mOrV ta tb) := PE.weak (pe_or ha hb) fun σ H Q q => by
  unfold mOrV at q
  rw [toB_eq] at q
  exact q
theorem p_and {a b : Expr} {rest : List Expr} {ta tb : TE} {pos : Pos} (ha : PE X a ta) (hb : PE X (.BoolOp .And (b :: rest) pos) tb) : PE X (.BoolOp .And (a :: b :: rest) pos) (mAndV ta tb) := PE.weak (pe_and ha hb) fun σ H Q q => by
  unfold mAndV at q
  rw [toB_eq] at q
  exact q
theorem p_not {a : Expr} {ta : TE} {pos : Pos} (ha : PE X a ta) : PE X (.UnaryOp .Not a pos) (mNotV ta) := PE.weak (pe_not ha) fun σ H Q q => by
  unfold mNotV at q
  rw [toB_eq] at q
  exact q
theorem p_if {c : Expr} {a b : List Stmt} {tc : TT} {t u : TS} {pos : Pos} (hc : PT X c tc) (ha : PSs X a t) (hb : PSs X b u) : PS X (.If c a b pos) (mIf tc t u) := ps_if hc ha hb
theorem p_ifE {c a b : Expr} {tA : TT} {ta tb : TE} {pos : Pos} (hc : PT X c tA) (ha : PE X a ta) (hb : PE X b tb) : PE X (.IfExp c a b pos) (mIfE tA ta tb) := pe_ifExp hc ha hb
theorem part_eq (Q : Option Int → Hp → Prop) : (fun (x : V) (H1 : Hp) => match x with
  | .int i => Q (some i) H1
  | _ => False) = fun x H1 => ∃ i, x = .int i ∧ Q (some i) H1 := by
  funext x H
  refine propext ?_
  cases x <;>
    first
      | exact ⟨fun h => ⟨_, rfl, h⟩, fun ⟨k, e, q⟩ => by cases e; exact q⟩
      | exact ⟨fun h => False.elim h, fun ⟨k, e, q⟩ => nomatch e⟩
theorem p_some {e : Expr} {t : TE} (h : PE X e t) : PO X (some e) (mPart t) := by
  have q := po_some h
  have e2 : tPart t = mPart t := by
    funext σ H Q
    unfold tPart mPart
    rw [part_eq]
  rw [e2] at q
  exact q
theorem p_aug {i : Nat} {x : Str} {op : Operator} {e : Expr} {te : TE} {r : R2} {pos pos' : Pos} (hN : X.N.Nodup) (hi : X.N[i]? = some x) (hx : Loc X.env.scope x) (he : PE X e te) (ho : PIp X op r)
    (hd : (x == ("__debug__" : Str)) = false := by decide) (hcd : (x == ("__classdict__" : Str)) = false := by decide)
    (hf : X.fn x = true ∨ X.env.scope.names.lookup x = some .local := by first | exact .inl rfl | exact .inr rfl | assumption) : PS X (.AugAssign (.Name x pos') op e pos) (mAug i te r) := PS.weak (ps_aug hN hi hx he ho (hf := hf)) fun D σ H q => by
  unfold mAug at q
  cases e2 : lk σ i with
  | none =>
    rw [e2] at q
    exact q.elim
  | some v =>
    rw [e2] at q
    exact ⟨v, lk_get e2, q⟩
def mIAdd : R2 := fun x y H Q => match x, y with
  | .int i, .int j => Q (.int (i + j)) H
  | .str a, .str b => a.length + b.length ≤ sizeLine ∧ Q (.str (a ++ b)) H
  | _, _ => False
theorem i_add : PIp X .Add mIAdd := fun pins s σ H x y v u Q I rx ry h => by
  cases x <;> cases y <;>
    first
      | exact h.elim
      | exact iop_add pins s σ H _ _ v u Q I rx ry ⟨_, _, rfl, rfl, h⟩
      | exact iop_add_str pins s σ H _ _ v u Q I rx ry ⟨_, _, rfl, rfl, h.1, h.2⟩
theorem i_sub : PIp X .Sub mSub := fun pins s σ H x y v u Q I rx ry h => iop_sub pins s σ H x y v u Q I rx ry (mI0_ok h)
theorem c_len : CallR X (.builtin "len") (hLen X.K) := call_len
theorem c_int : CallR X (.type "int") mInt := CallR.weak call_int1 fun xs H Q h => by
  unfold mInt at h
  split at h
  · exact .inl ⟨_, rfl, h⟩
  · exact .inr ⟨_, rfl, h⟩
  · exact h.elim
theorem c_abs : CallR X (.builtin "abs") mAbs := CallR.weak call_abs fun xs H Q h => by
  unfold mAbs at h
  split at h
  · exact ⟨_, rfl, h⟩
  · exact h.elim
theorem c_list : CallR X (.type "list") (hListOf X.K) := call_list_of
theorem c_tuple : CallR X (.type "tuple") (hTupOf X.K) := call_tuple_of
theorem c_isi : CallR X (.builtin "isinstance") (rIsi X.K) := call_isi
theorem c_repr (hg : X.A.guards = some []) (hu : X.A.units + 64 < cLine) : CallR X (.builtin "repr") (hRepr X.K) := by
  intro pins s σ H xs us Q I r h
  obtain ⟨x, d, rfl, hd, hs, hn, hz, hl, q⟩ := h
  obtain ⟨u, rfl, rx⟩ := vals1 r
  obtain ⟨as, rd⟩ := Dp.reads I d x u hd rx
  cases hd with
  | int i =>
    obtain ⟨t, rfl⟩ := rx
    refine PySem.P.repr_of_int ?_ ⟨.str _, H, I.tok _, ⟨_, rfl⟩, ?_⟩
    · exact of_decide_eq_true (by simpa [PyData.showable] using hs)
    · simpa [PyData.shown] using q
  | lst h1 h2 =>
    cases rx
    exact repr_of_reads' rd hs (PyData.noDict_hsm hn) hg (by omega) (fun _ _ e => e) (fun h' u tk hk => ⟨.str _, H, I.kept hk, ⟨_, rfl⟩, q⟩) hl
  | tup h1 h2 =>
    cases rx
    exact repr_of_reads' rd hs (PyData.noDict_hsm hn) hg (by omega) (fun _ _ e => e) (fun h' u tk hk => ⟨.str _, H, I.kept hk, ⟨_, rfl⟩, q⟩) hl
  | non =>
    cases rx
    exact PySem.P.repr_of_none ⟨.str _, H, I.tok _, ⟨_, rfl⟩, by simpa [PyData.shown] using q⟩
  | bl b =>
    cases rx
    exact PySem.P.repr_of_bool ⟨.str _, H, I.tok _, ⟨_, rfl⟩, by simpa [PyData.shown] using q⟩
  | str z =>
    obtain ⟨t, rfl⟩ := rx
    exact PySem.P.repr_of_str ⟨.str _, H, I.tok _, ⟨_, rfl⟩, by simpa [PyData.shown] using q⟩ (by simpa [PyData.shown] using hl)
end

/-! ### defs that are called where no repr is under way -/
structure FnG (P : Program) (w : World) (K : PySem.W.Frag) (mg : Str → Option Value) (base : Heap) (k : Nat) (f : Addr) (fd : FuncData) (ps : List Str) (sp : Sp) : Prop where
  len : ∀ vs H Q E, sp vs H Q E → vs.length = ps.length
  go : ∀ (A : Around) (outer : List Env) (s : Shared) (H : Hp) (args : Args) (us : List Value) (vs : List V) (Q : VK) (E : XK), Room k A → A.guards = some [] →
    Env0 P w K mg base A outer s H → BindsTo s fd args (ps.zip us) → Vals vs us → sp vs H Q E → codeAny (model P w) A (.call (.ref f) args) (CR CX0 outer P w H s Q E) s
section
variable {P : Program} {w : World} {K : PySem.W.Frag} {mg : Str → Option Value} {base : Heap}
theorem okG {x qual : Str} {st : Stmt} {f : Addr} {fd : FuncData} {N ps : List Str} {k : Nat} {sp : Sp} (F : Fun K x qual st f fd) (S : FnScope N ps (defScope st))
    (len : ∀ vs H Q E, sp vs H Q E → vs.length = ps.length)
    (body : ∀ (cdv : Value) (A : Around) (outer : List Env) (s : Shared) (H : Hp) (vs : List V) (Q : VK) (E : XK), Room k (A.deeper (envOfC qual (defScope st) s.heap.objs.size f cdv)) →
      (A.deeper (envOfC qual (defScope st) s.heap.objs.size f cdv)).guards = some [] → sp vs H Q E →
      ∃ t, PSs (cxOf CX0 P w K mg base N qual (defScope st) f cdv A outer s H E).nox (defBody st) t ∧ t { nx := fun _ H' => Q .non H', rt := Q } (start N vs) H) :
    FnG P w K mg base (k + 1) f fd ps sp := by
  obtain ⟨oc, od, kV, doc, pm, an, cdv, ct, osl, efd, lk, hcd⟩ := F.ex
  subst efd
  refine ⟨len, fun A outer s H args us vs Q E hr hg e0 hb r hsp => ?_⟩
  have hl := len vs H Q E hsp
  have hkeep : ∀ b o, base.get? b = some o → s.heap.get? b = some o := fun b o e => (e0.bs b o e).1
  have KX : K.In s.heap := e0.mod.kin.keeps hkeep
  have lim : s.heap.NoLimit := e0.mod.nolimit.keeps hkeep
  have kinds : ∀ y ∈ ps.zip us, (defScope st).names.lookup y.1 = some .local ∨
      ((defScope st).names.lookup y.1 = some .cell ∧ ((cellsFrom (s.heap.objs.size + 1) (defScope st).names []).lookup y.1).isSome = true) := fun ⟨n, v⟩ hy => by
    rcases S.par n (List.of_mem_zip hy).1 with q | q
    · exact .inl q
    · exact .inr ⟨q, PySem.W.cellsFrom_some _ _ _ (.inl q)⟩
  refine codeAny_call_function hr.depth (KX f _ lk) rfl S.co S.gen rfl (PySem.W.codeRec_of KX hcd) (hb _ _ _ _ ?_)
  refine wpAny_newFunctionEnv_cells S.kind kinds fun env he s1 x => ?_
  subst he
  refine ⟨lim.keeps x.toInCall.keep, codeAny_func ?_⟩
  obtain ⟨t, ht0, hq⟩ := body cdv A outer s H vs Q E (hr.deeper _) hg hsp
  have ht := ht0.nox
  have I := inv_start (CX := CX0) (E := E) S hr.hd e0 hl r x
  refine wpAny_mono (ht.run [] s1 (start N vs) H _ I hq) (fun fl s' hs => ?_) fun _ _ hs => hs
  have fin : ∀ (σ' : L2.St) (H' : Hp) (v : V) (u : Value), Inv (cxOf CX0 P w K mg base N qual (defScope st) f cdv A outer s H E) [] σ' H' s' → RelV v u → Q v H' → CE outer P w H s Q u s' :=
    fun σ' H' v u J rv q => ⟨v, H', J.os, J.bare, J.base, J.hok, rv, q⟩
  cases fl with
  | next =>
    obtain ⟨σ', H', J, q⟩ := hs
    exact fin σ' H' .non .none J rfl q
  | ret u =>
    obtain ⟨v, σ', H', J, rv, q⟩ := hs
    exact fin σ' H' v u J rv q
  | brk => exact hs.elim fun _ z => z.elim fun _ z => False.elim z.2
  | cont => exact hs.elim fun _ z => z.elim fun _ z => False.elim z.2
theorem FnG.of {k : Nat} {f : Addr} {fd : FuncData} {ps : List Str} {sp : Sp} (F : FnOk P w K mg base CX0 k f fd ps sp) : FnG P w K mg base k f fd ps sp :=
  ⟨F.len, fun A outer s H args us vs Q E hr _ => F.run A outer s H args us vs Q E hr⟩
end
section
variable {X : Cx} {k : Nat} {f : Addr} {fd : FuncData} {ps : List Str} {sp : Sp} {dvs : List V} {ds : List Value} {E : XK} {x : Str} {p pos : Pos} {e : Expr} {es : List Expr} {t : TA}
theorem runG {pins : List (Addr × Obj)} {σ : L2.St} {H : Hp} {s : Shared} {Q : VK} {us : List Value} {vs : List V} (F : FnG X.prog X.w X.K X.mg X.base k f fd ps sp) (hg : X.A.guards = some []) (hr : Room k X.A)
    (hb : Binds X.K fd ps ds) (hd : Vals dvs ds) (I : Inv X pins σ H s) (r : Vals vs us) (h : sp (vs ++ dvs) H Q E) : wpAny (model X.prog X.w) X.A (call (.ref f) us) (EP X pins σ Q) X.xe s := by
  have r2 : Vals (vs ++ dvs) (us ++ ds) := r.append hd
  have hl : (us ++ ds).length = ps.length := r2.length.symm.trans (F.len _ _ _ _ h)
  refine wpAny_call (codeAny_mono (F.go X.A X.stack s H ⟨us, []⟩ (us ++ ds) (vs ++ dvs) Q E hr hg I.env0 (hb s us I.kIn hl) r2 h) fun rr s' hq => ?_)
  match rr, hq with
  | .error _, hq => exact False.elim hq
  | .ok (.ret u), hq => exact I.after hq
  | .ok .next, hq => exact False.elim hq
  | .ok .brk, hq => exact False.elim hq
  | .ok .cont, hq => exact False.elim hq
theorem pe_callG (F : FnG X.prog X.w X.K X.mg X.base k f fd ps sp) (hg : X.A.guards = some []) (hr : Room k X.A) (hgl : Gl X x) (hm : X.mg x = some (.ref f)) (hk : PySem.W.keepIn X.K (.ref f) = true)
    (hb : Binds X.K fd ps ds) (hd : Vals dvs ds) (ha : PA X (e :: es) t) (hdb : (x == ("__debug__" : Str)) = false := by decide)
    (he : starEach (e :: es) X.env = (false, eval e X.env) :: starEach es X.env := by rfl) (hpl : (backTo pos (starEach es X.env)).any (·.1) = false := by rfl) :
    PE X (.Call (.Name x p) (e :: es) [] pos) (tCall sp dvs E t) :=
  ⟨fun pins s σ H Q I h => wpAny_Call_Name_kw (ld_glob I hgl hm
    (PySem.W.callWith_K (h₀ := X.base) I.ok.mod.kin hk (thn (ha.run pos pins s σ H _ I h) fun us s1 ⟨vs, H1, I1, r, q⟩ => ⟨I1.kIn, runG F hg hr hb hd I1 r q⟩) he hpl) hdb)⟩
end

/-! ### the law's end -/
/-- an abstract heap that knows the script alone -/
theorem law_callG {P : Program} {w : World} {K : PySem.W.Frag} {mg mb : Str → Option Value} {k : Nat} {fa a : Addr} {fd : FuncData} {x : Str} {sp : Sp} {s₁ : Shared} {vs : List Value} {ns : List Int}
    (KX : K.In s₁.heap) (hns : s₁.heap.Ns mainGlobals mg) (hb : s₁.heap.Ns builtinsNs mb) (hbb : ∀ x : Str, x ≠ "__name__" → mb x = bootBuiltins x) (hlim : s₁.heap.NoLimit) (hg : s₁.gens = #[])
    (ha : s₁.heap.get? a = some { cls := .type "list", data := .seq vs.toArray }) (hi : IntsAre vs ns) (hl : ns.length ≤ sizeLine) (hr : Room k callerA)
    (F : ∀ base : Heap, K.In base → base.Ns mainGlobals mg → FnG P w K mg base k fa fd [x] sp) (hbind : ∀ (s : Shared) (u : Value), BindsTo s fd ⟨[u], []⟩ [(x, u)])
    (hsp : ∀ H : Hp, Only H → SqL K H a (ns.map V.int) → sp [.ref a] H (fun v _ => v = .bl true) fun _ _ _ => False) :
    codeAny (model P w) callerA (.call (.ref fa) ⟨[.ref a], []⟩) (fun r s' => r = .ok (.ret (.bool true)) ∧ OldK s₁.heap s'.heap ∧ s'.os = s₁.os ∧ AllBare s'.gens) s₁ := by
  have rv := vals_ints hi
  have lenV := hi.length
  -- whatever is known: nothing, or the script alone
  suffices core : ∀ H : Hp, Only H → SqL K H a (ns.map V.int) → HOk P w H s₁.heap → (∀ b, H b ≠ none → b = a ∧ K.lookup a = none) →
      codeAny (model P w) callerA (.call (.ref fa) ⟨[.ref a], []⟩) (fun r s' => r = .ok (.ret (.bool true)) ∧ OldK s₁.heap s'.heap ∧ s'.os = s₁.os ∧ AllBare s'.gens) s₁ by
    cases hk : K.lookup a with
    | some o =>
      have e := KX a o hk
      rw [ha] at e
      cases e
      refine core (fun _ => none) (fun _ => .inl rfl) (.inr ⟨_, vs.toArray, _, hk, rfl, rfl, rfl, ?_, ?_⟩) (fun b u z => ?_) (fun b z => absurd rfl z)
      · rw [List.size_toArray, lenV]
        exact hl
      · simpa using rv
      · exact nomatch (show (none : Option HO) = some u from z)
    | none =>
      refine core (upd (fun _ => none) a (.frz { cls := .type "list", data := .seq vs.toArray } (.lst (ns.map V.int)))) (fun b => ?_) (.inl (.inr ⟨_, upd_same⟩)) (fun b u z => ?_) (fun b z => ?_)
      · by_cases hb : b = a
        · subst hb
          exact .inr ⟨_, _, upd_same⟩
        · exact .inl (upd_ne hb)
      · by_cases hb : b = a
        · subst hb
          rw [upd_same] at z
          cases z
          exact ⟨ha, by rw [List.length_map]; exact hl, vs, _, rv, ha⟩
        · rw [upd_ne hb] at z
          cases z
      · by_cases hb : b = a
        · exact ⟨hb, hk⟩
        · exact absurd (upd_ne hb) z
  intro H hO hS hok hA
  have notDict : ∀ {b : Addr} {o : Obj} {es : Array DictEntry} {ep : Nat}, s₁.heap.get? b = some o → o.data = .dict es ep → H b = none := fun {b o es ep} e d => by
    cases q : H b with
    | none => rfl
    | some u =>
      obtain ⟨e', _⟩ := hA b (by rw [q]; exact nofun)
      subst e'
      rw [ha] at e
      cases e
      exact nomatch (show Data.seq vs.toArray _ = Data.dict es ep from d)
  have nsB : ∀ {b : Addr} {m : Str → Option Value}, s₁.heap.Ns b m → (hidT s₁.heap H).Ns b m := fun ⟨o, es, ep, e, d, r⟩ => ⟨o, es, ep, hidT_get e (notDict e d), d, r⟩
  have inB : K.In (hidT s₁.heap H) := fun b o e => hidT_get (KX b o e) (by
    cases q : H b with
    | none => rfl
    | some u =>
      obtain ⟨e', hk⟩ := hA b (by rw [q]; exact nofun)
      subst e'
      rw [hk] at e
      cases e)
  have md : Mod K mg (hidT s₁.heap H) := ⟨inB, nsB hns, ⟨mb, nsB hb, hbb⟩, hlim.elim fun mc h => ⟨mc, nsB h.1, h.2⟩⟩
  have none_in : ∀ b : Addr, b ∉ frs [] := fun b hb => absurd (show b ∈ ([] : List Addr) from hb) List.not_mem_nil
  have e0 : Env0 P w K mg (hidT s₁.heap H) callerA [] s₁ H := ⟨rfl, md, fun b o e => of_hidT e, Nat.le_of_eq (hidT_size _ _), trivial, fun b hb => absurd hb (none_in b), hok, .of_eq hg⟩
  refine codeAny_mono ((F _ inB (nsB hns)).go callerA [] s₁ H ⟨[.ref a], []⟩ [.ref a] [.ref a] _ _ hr rfl e0 (hbind s₁ (.ref a)) (.cons rfl .nil) (hsp H hO hS)) fun rr s' h => ?_
  match rr, h with
  | .error _, h => exact False.elim h
  | .ok .next, h => exact False.elim h
  | .ok .brk, h => exact False.elim h
  | .ok .cont, h => exact False.elim h
  | .ok (.ret u), h =>
    obtain ⟨v, H', os, bare, un, hok', r', q⟩ := h
    cases (show v = .bl true from q)
    cases (show u = Value.bool true from r')
    refine ⟨rfl, OldK.of_keep fun b o e => ?_, os, bare⟩
    rcases hO b with z | ⟨ob, xs, z⟩
    · exact un.keep b o e z (none_in b) List.not_mem_nil
    · obtain ⟨e1, _⟩ := hok b _ z
      obtain ⟨e2, _⟩ := hok' b _ (un.frzs b ob _ z)
      rw [e] at e1
      cases e1
      exact e2
theorem walk_ofG {l : PySem.W.OpenLaw} {n k : Nat} {q : Program} {loose : List Str} {XP : (Str → Option Value) → Heap → Prop} {YP : World → Heap → Prop} {d : DefRec} {K : Params → PySem.W.Frag} {sp : PySem.W.Frag → Sp} {x : Str}
    (hn : l.most = some n) (hn2 : n ≤ sizeLine) (hdf : d.params.defaults = []) (hr : Room k callerA) (hY : ∀ (w : World) (h : Heap), YP w h → (K w.params).In h)
    (F : ∀ (w : World) (mg : Str → Option Value) (fa : Addr) (h : Heap), (K w.params).In h → h.Ns mainGlobals mg → mg d.name = some (.ref fa) →
      ∃ fd : FuncData, (∀ (s : Shared) (u : Value), BindsTo s fd ⟨[u], []⟩ [(x, u)]) ∧
        ∀ base : Heap, (K w.params).In base → base.Ns mainGlobals mg → FnG l.prog w (K w.params) mg base k fa fd [x] (sp (K w.params)))
    (hsp : ∀ (K : PySem.W.Frag) (H : Hp) (a : Addr) (ns : List Int), ns.length ≤ n → (∀ z ∈ ns, Builtin.Int.intBits z ≤ 1048576) → Only H → SqL K H a (ns.map V.int) → sp K [.ref a] H (fun v _ => v = .bl true) fun _ _ _ => False) :
    PySem.W.WalkO q loose XP YP l.row.toRowW d [] (fun f vs => PySem.call f vs) := by
  refine Att.attach_callB hn hdf fun w s₀ s₁ mg mb fa o pm cd doc a vs ns G Y ho hd hcd hmg hobj hints hlen hbits hg => ?_
  have KX := hY w _ Y
  obtain ⟨fd, hb, hF⟩ := F w mg fa _ KX G.T.g hmg
  exact law_callG KX G.T.g G.T.b G.T.builtins G.T.nolimit hg hobj hints (Nat.le_trans hlen hn2) hr hF hb fun H hO hS => hsp _ H a ns hlen hbits hO hS


/-- a for over what J walks -/
def Lp (J : It) (g : TG) (tb : TS) (D : Ends) (σ : L2.St) (H : Hp) : Prop := ∃ W : Nat → Nat → L2.St → Hp → Prop, (∃ m, W 0 m σ H) ∧ ∀ i m σ H, W i m σ H →
  (J.stop i H ∧ D.nx σ H) ∨
    (J.go i H ∧ ∃ N : L2.St → Hp → Prop, (∀ σ' H', N σ' H' → ∃ m', m' < m ∧ W (i + 1) m' σ' H') ∧ ∀ x H', J.yld i H x H' → g x σ H' fun σ2 H2 => tb { D with nx := N, ct := N, bk := D.nx } σ2 H2)
/-- a list made over what J walks -/
def Lc (J : It) (g : TG) (tt : TT) (te : TE) (vs : List Nat) (σ : L2.St) (H1 : Hp) (Q : VK) : Prop := ∀ D, H1 D = none → ∃ W : Nat → Nat → Hp → Prop, (∃ m, W 0 m (upd H1 D (.lst []))) ∧ ∀ i m H, W i m H →
  (J.stop i H ∧ Q (.ref D) H) ∨
    (J.go i H ∧ ∃ Nx : Hp → Prop, (∀ H', Nx H' → ∃ m', m' < m ∧ W (i + 1) m' H') ∧ ∀ x H', J.yld i H x H' → g x (wipe σ vs) H' fun σ2 H2 => wipe σ2 vs = wipe σ vs ∧ tt σ2 H2 fun b H3 =>
      if b = true then te σ2 H3 fun y H4 => ∃ acc, H4 D = some (.lst acc) ∧ acc.length < sizeLine ∧ Nx (upd H4 D (.lst (acc ++ [y]))) else Nx H3)
/-- what is asked of range's ends -/
def rg1 (xs : List V) (P : Int → Prop) : Prop := match xs with
  | [.int j] => -(2 ^ 62) ≤ j ∧ j < 2 ^ 62 ∧ P j
  | _ => False
def rg2 (xs : List V) (P : Int → Int → Prop) : Prop := match xs with
  | [.int i, .int j] => (-(2 ^ 62) ≤ i ∧ i < 2 ^ 62 ∧ -(2 ^ 62) ≤ j ∧ j < 2 ^ 62) ∧ P i j
  | _ => False
theorem rg1_ok {xs : List V} {P : Int → Prop} : rg1 xs P = ∃ j : Int, xs = [.int j] ∧ -(2 ^ 62) ≤ j ∧ j < 2 ^ 62 ∧ P j := by
  refine propext ⟨fun h => ?_, fun ⟨j, e, h⟩ => by subst e; exact h⟩
  unfold rg1 at h
  split at h
  · exact ⟨_, rfl, h⟩
  · exact h.elim
theorem rg2_ok {xs : List V} {P : Int → Int → Prop} : rg2 xs P = ∃ i j : Int, xs = [.int i, .int j] ∧ (-(2 ^ 62) ≤ i ∧ i < 2 ^ 62 ∧ -(2 ^ 62) ≤ j ∧ j < 2 ^ 62) ∧ P i j := by
  refine propext ⟨fun h => ?_, fun ⟨i, j, e, h⟩ => by subst e; exact h⟩
  unfold rg2 at h
  split at h
  · exact ⟨_, _, rfl, h⟩
  · exact h.elim
def jR1 (ta : TA) : TI := fun σ H R => ta σ H fun vs H1 => rg1 vs fun j => R (Itr 0 j.toNat) H1
def jR2 (ta : TA) : TI := fun σ H R => ta σ H fun vs H1 => rg2 vs fun i j => R (Itr i (j - i).toNat) H1
/-- a list that is walked: its place -/
def isL (K : PySem.W.Frag) (x : V) (H : Hp) (P : Addr → Prop) : Prop := ∃ a, x = .ref a ∧ (∃ xs, SqL K H a xs) ∧ P a
def isT (K : PySem.W.Frag) (x : V) (H : Hp) (P : Addr → Prop) : Prop := ∃ a, x = .ref a ∧ (∃ xs, SqT K H a xs) ∧ P a
def jL (K : PySem.W.Frag) (tl : TE) : TI := fun σ H R => tl σ H fun x H1 => isL K x H1 fun a => R (Itl K a) H1
def jT (K : PySem.W.Frag) (tl : TE) : TI := fun σ H R => tl σ H fun x H1 => isT K x H1 fun a => R (Itt K a) H1
theorem jR1_eq (ta : TA) : iRng1 ta = jR1 ta := by
  funext σ H R
  unfold iRng1 jR1
  simp only [rg1_ok]
theorem jR2_eq (ta : TA) : iRng2 ta = jR2 ta := by
  funext σ H R
  unfold iRng2 jR2
  simp only [rg2_ok]
section
variable {X : Cx}
theorem i_rng1 {tg : Expr} {ta : TA} {iter : Expr} (h : PI X tg iter (iRng1 ta)) : PI X tg iter (jR1 ta) := jR1_eq ta ▸ h
theorem i_rng2 {tg : Expr} {ta : TA} {iter : Expr} (h : PI X tg iter (iRng2 ta)) : PI X tg iter (jR2 ta) := jR2_eq ta ▸ h
theorem i_list {tg iter : Expr} {tl : TE} (h : PI X tg iter (iList X.K tl)) : PI X tg iter (jL X.K tl) := h
theorem i_tup {tg iter : Expr} {tl : TE} (h : PI X tg iter (iTup X.K tl)) : PI X tg iter (jT X.K tl) := h
end
/-- equality of texts: a word of its own, that nothing evaluates -/
def eqS (a b : Str) : Bool := decide (a = b)
theorem eqS_t {a b : Str} (h : a = b) : eqS a b = true := decide_eq_true h
theorem eqS_f {a b : Str} (h : ¬ a = b) : eqS a b = false := decide_eq_false h
/-- several targets -/
def mGn : TGs := fun vs σ H Q => match vs with
  | [] => Q σ H
  | _ => False
def mGc (t : TG) (u : TGs) : TGs := fun vs σ H Q => match vs with
  | v :: r => t v σ H fun σ' H' => u r σ' H' Q
  | [] => False
theorem mGn_eq : gNil = mGn := by
  funext vs σ H Q
  refine propext ?_
  cases vs with
  | nil => exact ⟨fun h => h.2, fun h => ⟨rfl, h⟩⟩
  | cons v r => exact ⟨fun h => (nomatch h.1), fun h => False.elim h⟩
theorem mGc_eq (t : TG) (u : TGs) : gCons t u = mGc t u := by
  funext vs σ H Q
  refine propext ?_
  cases vs with
  | nil => exact ⟨fun ⟨v, r, e, _⟩ => (nomatch e), fun h => False.elim h⟩
  | cons v r => exact ⟨fun ⟨v, r, e, h⟩ => by cases e; exact h, fun h => ⟨v, r, rfl, h⟩⟩
theorem p_gnil {X : Cx} : PGs X [] mGn := mGn_eq ▸ pgs_nil
theorem p_gcons {X : Cx} {a : Expr} {as : List Expr} {t : TG} {u : TGs} (h1 : PG X a t) (h2 : PGs X as u) (hs : (assignEach (a :: as) X.env).map (·.2) = assign a X.env :: (assignEach as X.env).map (·.2) := by rfl) : PGs X (a :: as) (mGc t u) := mGc_eq t u ▸ pgs_cons h1 h2 hs
/-- a statement, then what is behind it, by a word of one's own between them -/
def mCut (t u : TS) : TS := fun D σ H => ∃ M : L2.St → Hp → Prop, t { D with nx := M } σ H ∧ ∀ σ' H', M σ' H' → u D σ' H'
theorem p_cut {X : Cx} {st : Stmt} {rest : List Stmt} {t u : TS} (h1 : PS X st t) (h2 : PSs X rest u) : PSs X (st :: rest) (mCut t u) where
  run := fun pins s σ H D I h => by
    obtain ⟨M, hm, hu⟩ := h
    have q1 := h1.run pins s σ H { D with nx := M } I hm
    refine wpAny_execs_cons (thn q1 ?_)
    intro fl s1 q
    cases fl with
    | next => exact q.elim fun σ' z => z.elim fun H' z => h2.run pins s1 σ' H' D z.1 (hu σ' H' z.2)
    | ret v => exact q
    | brk => exact q
    | cont => exact q
theorem h_cut {t u : TS} {D : Ends} {σ : L2.St} {H : Hp} (M : L2.St → Hp → Prop) (h1 : t { D with nx := M } σ H) (h2 : ∀ σ' H', M σ' H' → u D σ' H') : mCut t u D σ H := ⟨M, h1, h2⟩
/-- a new list, a new tuple -/
def newL (xs : List V) (H : Hp) (Q : VK) : Prop := xs.length ≤ sizeLine ∧ ∀ p, H p = none → Q (.ref p) (upd H p (.lst xs))
def newT (xs : List V) (H : Hp) (Q : VK) : Prop := xs.length ≤ sizeLine ∧ ∀ p, H p = none → Q (.ref p) (upd H p (.tup xs))
def vl (o : Option V) (Q : VK) (H : Hp) : Prop := match o with
  | some v => Q v H
  | none => False
/-- targets: a tuple's items -/
def tupl (K : PySem.W.Frag) (n : Nat) (t : TGs) (v : V) (σ : L2.St) (H : Hp) (Q : L2.St → Hp → Prop) : Prop := ∃ a xs, v = .ref a ∧ SqT K H a xs ∧ xs.length = n ∧ t xs σ H Q
def asV (v : V) (vs : List V) (P : List V → Prop) : Prop := match vs with
  | x :: r => P r
  | [] => False
def truK (K : PySem.W.Frag) (Q : Bool → Hp → Prop) (x : V) (H1 : Hp) : Prop := match x with
  | .bl b => Q b H1
  | .int i => Q (i != 0) H1
  | .non => Q false H1
  | x => hTru K x H1 Q
def partK (Q : Option Int → Hp → Prop) (x : V) (H1 : Hp) : Prop := match x with
  | .int i => Q (some i) H1
  | _ => False
section
variable {K : PySem.W.Frag} {σ : L2.St} {H H0 : Hp} {S : List Addr} {L : List (Addr × Ent)} {I : List (V × PyData)} {Q : VK} {QB : Bool → Hp → Prop} {QL : List V → Hp → Prop} {QS : L2.St → Hp → Prop} {QO : Option Int → Hp → Prop} {QH : Hp → Prop} {D : Ends} {v x y : V} {ta tb te tl tc : TE} {t u c tt : TT} {A : TA} {t1 t2 ts : TS} {r : R2} {g : TG} {gs : TGs} {vs : List V} {is : List Nat} {i j : Int} {a b : Str} {p q : Bool} {n : Nat} {rc : RCall} {rm : RMt} {rs : RSl} {T : String} {lo hi : TO} {wi : TI}
theorem a_lk0 : lk (none :: σ) 0 = none := rfl
theorem a_lk1 : lk (some v :: σ) 0 = some v := rfl
theorem a_lkS {o : Option V} : lk (o :: σ) (n + 1) = lk σ n := rfl
theorem a_V : mV n σ H Q = vl (lk σ n) Q H := rfl
theorem a_vl : vl (some v) Q H = Q v H := rfl
theorem a_c : tC v σ H Q = Q v H := rfl
theorem a_op : tOp r ta tb σ H Q = ta σ H fun x H1 => tb σ H1 fun y H2 => r x y H2 Q := rfl
theorem a_un {ru : V → Hp → VK → Prop} : tUn ru ta σ H Q = ta σ H fun x H1 => ru x H1 Q := rfl
theorem a_test : mTest ta σ H QB = ta σ H (toB QB) := rfl
theorem a_toB : toB QB (.bl p) H = QB p H := rfl
theorem a_tr : mTr K ta σ H QB = ta σ H (truK K QB) := rfl
theorem a_trB : truK K QB (.bl p) H = QB p H := rfl
theorem a_trI : truK K QB (.int i) H = QB (i != 0) H := rfl
theorem a_trN : truK K QB .non H = QB false H := rfl
theorem a_and : tAnd t u σ H QB = t σ H fun c H1 => if c = true then u σ H1 QB else QB false H1 := rfl
theorem a_or : tOr t u σ H QB = t σ H fun c H1 => if c = true then QB true H1 else u σ H1 QB := rfl
theorem a_not : tNot t σ H QB = t σ H fun c H1 => QB (!c) H1 := rfl
theorem a_andV : mAndV ta tb σ H Q = ta σ H (toB fun c H1 => if c = true then tb σ H1 Q else Q (.bl false) H1) := rfl
theorem a_orV : mOrV ta tb σ H Q = ta σ H (toB fun c H1 => if c = true then Q (.bl true) H1 else tb σ H1 Q) := rfl
theorem a_notV : mNotV ta σ H Q = ta σ H (toB fun c H1 => Q (.bl (!c)) H1) := rfl
theorem a_ifE : mIfE t ta tb σ H Q = t σ H fun b H1 => BrE b ta tb Q σ H1 := rfl
theorem a_nil : tNil σ H QL = QL [] H := rfl
theorem a_cons : tCons ta A σ H QL = ta σ H fun x H1 => A σ H1 fun xs H2 => QL (x :: xs) H2 := rfl
theorem a_lst : tLst A σ H Q = A σ H fun xs H1 => newL xs H1 Q := rfl
theorem a_tup : tTup A σ H Q = A σ H fun xs H1 => newT xs H1 Q := rfl
theorem a_call {sp : Sp} {dvs : List V} {E : XK} : tCall sp dvs E A σ H Q = A σ H fun vs H1 => sp (vs ++ dvs) H1 Q E := rfl
theorem a_CB : tCB rc A σ H Q = A σ H fun vs H1 => rc vs H1 Q := rfl
theorem a_BM : tBM K T rm ta A σ H Q = ta σ H fun x H1 => tyV K T x H1 ∧ A σ H1 fun xs H2 => rm x xs H2 Q := rfl
theorem a_BM0 : tBM0 K T rm ta σ H Q = ta σ H fun x H1 => tyV K T x H1 ∧ rm x [] H1 Q := rfl
theorem a_sl : tSl rs te lo hi σ H Q = te σ H fun x H1 => lo σ H1 fun l H2 => hi σ H2 fun u H3 => rs x l u H3 Q := rfl
theorem a_part : mPart te σ H QO = te σ H (partK QO) := rfl
theorem a_partI : partK QO (.int i) H = QO (some i) H := rfl
theorem a_noPart : tNoPart σ H QO = QO none H := rfl
theorem a_seq : tSeq t1 t2 D σ H = t1 { D with nx := t2 D } σ H := rfl
theorem a_next : tNext D σ H = D.nx σ H := rfl
theorem a_brk : tBreak D σ H = D.bk σ H := rfl
theorem a_cont : tCont D σ H = D.ct σ H := rfl
theorem a_asg : tAsg te g D σ H = te σ H fun x H1 => g x σ H1 D.nx := rfl
theorem a_name : gName n v σ H QS = QS (σ.set n (some v)) H := rfl
theorem a_drop : tDrop te D σ H = te σ H fun _ H1 => D.nx σ H1 := rfl
theorem a_ret : tRet te D σ H = te σ H D.rt := rfl
theorem a_retN : tRetN D σ H = D.rt .non H := rfl
theorem a_if : mIf t t1 t2 D σ H = t σ H fun b H1 => Br b t1 t2 D σ H1 := rfl
theorem a_aug : mAug n te r D σ H = vl (lk σ n) (fun x H => te σ H fun y H1 => r x y H1 fun z H2 => D.nx (σ.set n (some z)) H2) H := rfl
theorem a_for : tFor wi g ts D σ H = wi σ H fun J H1 => Lp J g ts D σ H1 := rfl
theorem a_lc {vs : List Nat} : tLc wi g tt te vs σ H Q = wi σ H fun J H1 => Lc J g tt te vs σ H1 Q := rfl
theorem a_jR1 {R : It → Hp → Prop} : jR1 A σ H R = A σ H fun vs H1 => rg1 vs fun j => R (Itr 0 j.toNat) H1 := rfl
theorem a_jR2 {R : It → Hp → Prop} : jR2 A σ H R = A σ H fun vs H1 => rg2 vs fun i j => R (Itr i (j - i).toNat) H1 := rfl
theorem a_jL {R : It → Hp → Prop} : jL K tl σ H R = tl σ H fun x H1 => isL K x H1 fun a => R (Itl K a) H1 := rfl
theorem a_jT {R : It → Hp → Prop} : jT K tl σ H R = tl σ H fun x H1 => isT K x H1 fun a => R (Itt K a) H1 := rfl
theorem a_rg1 {P : Int → Prop} : rg1 [.int i] P = (-(2 ^ 62) ≤ i ∧ i < 2 ^ 62 ∧ P i) := rfl
theorem a_rg2 {P : Int → Int → Prop} : rg2 [.int i, .int j] P = ((-(2 ^ 62) ≤ i ∧ i < 2 ^ 62 ∧ -(2 ^ 62) ≤ j ∧ j < 2 ^ 62) ∧ P i j) := rfl
theorem a_gsub {to ti : TE} {ts : TSet} : gSub to ti ts v σ H QS = to σ H fun o H1 => ti σ H1 fun i H2 => ts o i v H2 fun H3 => QS σ H3 := rfl
theorem a_yes : tYes σ H QB = QB true H := rfl
theorem a_addI : mAdd K (.int i) (.int j) H Q = Q (.int (i + j)) H := rfl
theorem a_addS : mAdd K (.str a) (.str b) H Q = (a.length + b.length ≤ sizeLine ∧ Q (.str (a ++ b)) H) := rfl
theorem a_addR {a b : Addr} : mAdd K (.ref a) (.ref b) H Q = hAdd K (.ref a) (.ref b) H Q := rfl
theorem a_iaddI : mIAdd (.int i) (.int j) H Q = Q (.int (i + j)) H := rfl
theorem a_iaddS : mIAdd (.str a) (.str b) H Q = (a.length + b.length ≤ sizeLine ∧ Q (.str (a ++ b)) H) := rfl
theorem a_sub : mSub (.int i) (.int j) H Q = Q (.int (i - j)) H := rfl
theorem a_mulI : mMul (.int i) (.int j) H Q = (CMul i j ∧ Q (.int (i * j)) H) := rfl
theorem a_mulR {a : Addr} : mMul (.ref a) (.int j) H Q = rRep (.ref a) (.int j) H Q := rfl
theorem a_fdiv : mFdiv (.int i) (.int j) H Q = (CDivW i j ∧ Q (.int (i / j)) H) := rfl
theorem a_mod : mMod (.int i) (.int j) H Q = (0 < j ∧ Q (.int (i % j)) H) := rfl
theorem a_pow : mPow (.int i) (.int j) H Q = (CPow i j ∧ Q (.int (i ^ j.toNat)) H) := rfl
theorem a_shl : mShl (.int i) (.int j) H Q = (CPow i j ∧ Q (.int (i * 2 ^ j.toNat)) H) := rfl
theorem a_shr : mShr (.int i) (.int j) H Q = (0 ≤ j ∧ Q (.int (i / 2 ^ j.toNat)) H) := rfl
theorem a_lt : mLt (.int i) (.int j) H Q = Q (.bl (decide (i < j))) H := rfl
theorem a_le : mLe (.int i) (.int j) H Q = Q (.bl (decide (i ≤ j))) H := rfl
theorem a_gt : mGt (.int i) (.int j) H Q = Q (.bl (decide (j < i))) H := rfl
theorem a_ge : mGe (.int i) (.int j) H Q = Q (.bl (decide (j ≤ i))) H := rfl
theorem a_neg : mNeg (.int i) H Q = Q (.int (-i)) H := rfl
theorem a_EqI : mEq K (.int i) (.int j) H Q = Q (.bl (decide (i = j))) H := rfl
theorem a_EqS : mEq K (.str a) (.str b) H Q = Q (.bl (eqS a b)) H := rfl
theorem a_EqB : mEq K (.bl p) (.bl q) H Q = Q (.bl (decide (p = q))) H := rfl
theorem a_EqNN : mEq K .non .non H Q = Q (.bl true) H := rfl
theorem a_EqIN : mEq K (.int i) (.non) H Q = Q (.bl false) H := rfl
theorem a_EqNI : mEq K (.non) (.int i) H Q = Q (.bl false) H := rfl
theorem a_EqSN : mEq K (.str a) (.non) H Q = Q (.bl false) H := rfl
theorem a_EqNS : mEq K (.non) (.str a) H Q = Q (.bl false) H := rfl
theorem a_EqRR {a b : Addr} : mEq K (.ref a) (.ref b) H Q = hEq K (.ref a) (.ref b) H Q := rfl
theorem a_EqRN {a : Addr} : mEq K (.ref a) .non H Q = hEq K (.ref a) .non H Q := rfl
theorem a_EqNR {a : Addr} : mEq K .non (.ref a) H Q = hEq K .non (.ref a) H Q := rfl
theorem a_NeI : mNe K (.int i) (.int j) H Q = Q (.bl (!decide (i = j))) H := rfl
theorem a_NeS : mNe K (.str a) (.str b) H Q = Q (.bl (!eqS a b)) H := rfl
theorem a_NeB : mNe K (.bl p) (.bl q) H Q = Q (.bl (!decide (p = q))) H := rfl
theorem a_NeNN : mNe K .non .non H Q = Q (.bl false) H := rfl
theorem a_NeIN : mNe K (.int i) (.non) H Q = Q (.bl true) H := rfl
theorem a_NeNI : mNe K (.non) (.int i) H Q = Q (.bl true) H := rfl
theorem a_NeSN : mNe K (.str a) (.non) H Q = Q (.bl true) H := rfl
theorem a_NeNS : mNe K (.non) (.str a) H Q = Q (.bl true) H := rfl
theorem a_NeRR {a b : Addr} : mNe K (.ref a) (.ref b) H Q = hNe K (.ref a) (.ref b) H Q := rfl
theorem a_NeRN {a : Addr} : mNe K (.ref a) .non H Q = hNe K (.ref a) .non H Q := rfl
theorem a_NeNR {a : Addr} : mNe K .non (.ref a) H Q = hNe K .non (.ref a) H Q := rfl
theorem a_isNN : mIsN .non .non H Q = Q (.bl true) H := rfl
theorem a_isNI : mIsN (.int i) .non H Q = Q (.bl false) H := rfl
theorem a_isNS : mIsN (.str a) .non H Q = Q (.bl false) H := rfl
theorem a_isNB : mIsN (.bl p) .non H Q = Q (.bl false) H := rfl
theorem a_isNR {a : Addr} : mIsN (.ref a) .non H Q = Q (.bl false) H := rfl
theorem a_notNN : mNotN .non .non H Q = Q (.bl false) H := rfl
theorem a_notNI : mNotN (.int i) .non H Q = Q (.bl true) H := rfl
theorem a_notNS : mNotN (.str a) .non H Q = Q (.bl true) H := rfl
theorem a_notNB : mNotN (.bl p) .non H Q = Q (.bl true) H := rfl
theorem a_notNR {a : Addr} : mNotN (.ref a) .non H Q = Q (.bl true) H := rfl
theorem a_intI : mInt [.int i] H Q = Q (.int i) H := rfl
theorem a_intB : mInt [.bl p] H Q = Q (.int (if p then 1 else 0)) H := rfl
theorem a_abs : mAbs [.int i] H Q = Q (.int (if i < 0 then -i else i)) H := rfl
theorem a_gnil : mGn [] σ H QS = QS σ H := rfl
theorem a_gcons : mGc g gs (v :: vs) σ H QS = g v σ H fun σ' H' => gs vs σ' H' QS := rfl
end
section
variable {K : PySem.W.Frag} {σ : L2.St} {H H0 : Hp} {S : List Addr} {L : List (Addr × Ent)} {I : List (V × PyData)} {Q : VK} {D : Ends} {v x y : V} {i : Int} {g : TG} {tb : TS} {tt : TT} {te : TE} {vs : List Nat}
/-! ### ledgers made -/
theorem Led.cons {a : Addr} {e : Ent} (hL : Led K H0 S H L I) (h : EntAt K H a e) (hn : a ∉ L.map (·.1)) : Led K H0 S H ((a, e) :: L) I where
  nd := by
    rw [List.map_cons, List.nodup_cons]
    exact ⟨hn, hL.nd⟩
  at_ := fun n b x q => by
    cases n with
    | zero =>
      have q' := Option.some.inj q
      cases q'
      exact h
    | succ n => exact hL.at_ n b x q
  im := hL.im
  kp := hL.kp
theorem Led.mk1 {a : Addr} {e : Ent} (h : EntAt K H a e) : Led K H S H [(a, e)] [] := Led.cons Led.start h List.not_mem_nil
theorem Led.mk2 {a b : Addr} {o u : HO} (h1 : H a = some o) (h2 : H b = some u) (hn : a ≠ b) : Led K H S H [(a, .raw o), (b, .raw u)] [] :=
  Led.cons (Led.mk1 (e := .raw u) h2) (e := .raw o) h1 fun m => hn (List.mem_singleton.mp m)
theorem Led.imm (h : Led K H0 S H L I) (n : Nat) {d : PyData} (e : I[n]? = some (v, d)) : Im K H v d := h.im n v d e
theorem h_imm (n : Nat) (h : Led K H0 S H L I) {d : PyData} (e : I[n]? = some (v, d)) : Im K H v d := h.im n v d e
theorem Led.sqL (h : Led K H0 S H L I) (n : Nat) {a : Addr} {xs : List V} (e : L[n]? = some (a, .raw (.lst xs))) : SqL K H a xs := SqL.of (h.raw n e)
theorem Led.fr (h : Led K H0 S H L I) {p : Addr} (hp : H p = none) : H0 p = none ∨ p ∈ S := by
  by_cases m : p ∈ S
  · exact .inr m
  · exact .inl (fresh0 h.kp m hp)
/-- two entries stand apart -/
theorem Led.ne (h : Led K H0 S H L I) (n m : Nat) {a b : Addr} {e u : Ent} (h1 : L[n]? = some (a, e)) (h2 : L[m]? = some (b, u)) (hnm : n ≠ m) : a ≠ b := fun ab => by
  subst ab
  have r1 : (L.map (·.1))[n]? = some a := by
    rw [List.getElem?_map, h1]
    rfl
  have r2 : (L.map (·.1))[m]? = some a := by
    rw [List.getElem?_map, h2]
    rfl
  exact hnm (nd_ix h.nd r1 r2)
/-! ### the heap's operations -/
theorem h_lst (h : Led K H0 S H L I) {xs : List V} (z : xs.length ≤ sizeLine) (k : ∀ p H', (H0 p = none ∨ p ∈ S) → Led K H0 S H' ((p, .raw (.lst xs)) :: L) I → Q (.ref p) H') : newL xs H Q :=
  ⟨z, fun p hp => k p _ (h.fr hp) (h.alloc hp)⟩
theorem h_tup (h : Led K H0 S H L I) {xs : List V} {ds : List PyData} (z : xs.length ≤ sizeLine) (hd : Ims K H xs ds) (k : ∀ p H', Led K H0 S H' L ((.ref p, .tuple ds) :: I) → Q (.ref p) H') : newT xs H Q :=
  ⟨z, fun p hp => k p _ (h.allocT hp hd)⟩
theorem h_ixL (n : Nat) (h : Led K H0 S H L I) {a : Addr} {xs : List V} (e : L[n]? = some (a, .raw (.lst xs))) (hx : atI xs i = some v) (k : Q v H) : rIx K (.ref a) (.int i) H Q :=
  .inl ⟨a, xs, i, v, rfl, rfl, h.sqL n e, hx, k⟩
theorem h_ixQ {a : Addr} {xs : List V} (h : SqL K H a xs) (hx : atI xs i = some v) (k : Q v H) : rIx K (.ref a) (.int i) H Q := .inl ⟨a, xs, i, v, rfl, rfl, h, hx, k⟩
theorem at_nn {α : Type} {xs : List α} {i : Int} {v : α} (h0 : 0 ≤ i) (h : xs[i.toNat]? = some v) : atI xs i = some v := by
  have q := atI_nat h
  rw [Int.toNat_of_nonneg h0] at q
  exact q
theorem h_ixT {a : Addr} {ds : List PyData} {d : PyData} (hd : Im K H (.ref a) (.tuple ds)) (h0 : 0 ≤ i) (hx : ds[i.toNat]? = some d) (k : ∀ v, Im K H v d → Q v H) : rIx K (.ref a) (.int i) H Q := by
  cases hd with
  | tup hs ha =>
    obtain ⟨v, hv, hi⟩ := ha.get' hx
    exact .inr (.inl ⟨a, _, _, v, rfl, rfl, hs, at_nn h0 hv, k v hi⟩)
/-- a scalar of a tuple -/
def vOf : PyData → Option V
  | .none => some .non
  | .bool b => some (.bl b)
  | .int i => some (.int i)
  | .str x => some (.str x)
  | _ => none
theorem Im.vOf {d : PyData} (h : Im K H v d) : ∀ u, vOf d = some u → v = u := fun u e => by
  cases h <;> first | exact Option.some.inj e | exact nomatch e
theorem h_ixTv {a : Addr} {ds : List PyData} {d : PyData} (hd : Im K H (.ref a) (.tuple ds)) (h0 : 0 ≤ i) (hx : ds[i.toNat]? = some d) (hv : Rs.vOf d = some v) (k : Q v H) : rIx K (.ref a) (.int i) H Q :=
  h_ixT hd h0 hx fun u hu => by rw [hu.vOf v hv]; exact k
theorem h_append (n : Nat) (h : Led K H0 S H L I) {a : Addr} {xs : List V} (e : L[n]? = some (a, .raw (.lst xs))) (hs : H0 a = none ∨ a ∈ S) (z : xs.length < sizeLine) (k : ∀ H', Led K H0 S H' (L.set n (a, .raw (.lst (xs ++ [y])))) I → Q .non H') : rAppend (.ref a) [y] H Q :=
  ⟨a, xs, y, rfl, rfl, h.raw n e, z, k _ (h.wr n e (fun b o q hb => by rw [upd_ne (by simpa using hb)]; exact q) (h.raw n e) rfl upd_same hs)⟩
theorem h_appendD (n : Nat) (h : Led K H0 S H L I) {a : Addr} {ds : List PyData} {d : PyData} (e : L[n]? = some (a, .dl ds)) (hd : Im K H y d) (hs : H0 a = none ∨ a ∈ S) (z : ds.length < sizeLine) (k : ∀ H', Led K H0 S H' (L.set n (a, .dl (ds ++ [d]))) I → Q .non H') : rAppend (.ref a) [y] H Q := by
  obtain ⟨xs, ha, hx⟩ := h.at_ n a _ e
  have hk : KBs H (upd H a (.lst (xs ++ [y]))) [a] := fun b o q hb => by rw [upd_ne (by simpa using hb)]; exact q
  have hN : NoT H [a] := NoT.one ha rfl
  exact ⟨a, xs, y, rfl, rfl, ha, by rw [hx.len]; exact z, k _ (h.wr n e hk ha rfl ⟨_, upd_same, (hx.keep hk hN).app (Ims.one (hd.keep hk hN))⟩ hs)⟩
theorem h_tyL {P : Prop} (n : Nat) (h : Led K H0 S H L I) {a : Addr} {xs : List V} (e : L[n]? = some (a, .raw (.lst xs))) (k : P) : tyV K "list" (.ref a) H ∧ P := ⟨.inl ⟨rfl, xs, h.sqL n e⟩, k⟩
theorem h_tyD {P : Prop} (n : Nat) (h : Led K H0 S H L I) {a : Addr} {ds : List PyData} (e : L[n]? = some (a, .dl ds)) (k : P) : tyV K "list" (.ref a) H ∧ P := by
  obtain ⟨xs, ha, hx⟩ := h.at_ n a _ e
  exact ⟨.inl ⟨rfl, xs, SqL.of ha⟩, k⟩
theorem h_tyS {P : Prop} {a : Str} (k : P) : tyV K "str" (.str a) H ∧ P := ⟨rfl, k⟩
theorem h_lenL (n : Nat) (h : Led K H0 S H L I) {a : Addr} {xs : List V} (e : L[n]? = some (a, .raw (.lst xs))) (k : Q (.int (xs.length : Nat)) H) : hLen K [.ref a] H Q := ⟨.ref a, _, rfl, .inl ⟨xs, h.sqL n e, rfl⟩, k⟩
theorem h_lenD (n : Nat) (h : Led K H0 S H L I) {a : Addr} {ds : List PyData} (e : L[n]? = some (a, .dl ds)) (k : Q (.int (ds.length : Nat)) H) : hLen K [.ref a] H Q := by
  obtain ⟨xs, ha, hx⟩ := h.at_ n a _ e
  exact ⟨.ref a, _, rfl, .inl ⟨xs, SqL.of ha, rfl⟩, by rw [hx.len]; exact k⟩
theorem h_lenQ {a : Addr} {xs : List V} (h : SqL K H a xs) (k : Q (.int (xs.length : Nat)) H) : hLen K [.ref a] H Q := ⟨.ref a, _, rfl, .inl ⟨xs, h, rfl⟩, k⟩
theorem h_lenT {a : Addr} {ds : List PyData} (h : Im K H (.ref a) (.tuple ds)) (k : Q (.int (ds.length : Nat)) H) : hLen K [.ref a] H Q := by
  cases h with
  | tup hs ha => exact ⟨.ref a, _, rfl, .inr ⟨_, hs, rfl⟩, by rw [ha.len]; exact k⟩
theorem h_lenS {z : Str} (h : z.length ≤ sizeLine) (k : Q (.int (z.length : Nat)) H) : hLen K [.str z] H Q := ⟨.str z, _, rfl, ⟨h, rfl⟩, k⟩
theorem h_setL {Q : Hp → Prop} (n : Nat) (h : Led K H0 S H L I) {a : Addr} {xs : List V} {m : Nat} (e : L[n]? = some (a, .raw (.lst xs))) (hs : H0 a = none ∨ a ∈ S) (hi : ixN xs.length i = some m) (k : ∀ H', Led K H0 S H' (L.set n (a, .raw (.lst (xs.set m v)))) I → Q H') : rSetL (.ref a) (.int i) v H Q :=
  ⟨a, xs, i, m, rfl, rfl, h.raw n e, hi, k _ (h.wr n e (fun b o q hb => by rw [upd_ne (by simpa using hb)]; exact q) (h.raw n e) rfl upd_same hs)⟩
theorem h_isL {a : Addr} {xs : List V} {P : Addr → Prop} (z : SqL K H a xs) (k : P a) : isL K (.ref a) H P := ⟨a, rfl, ⟨xs, z⟩, k⟩
theorem h_isLn {a : Addr} {xs : List V} {P : Addr → Prop} (n : Nat) (h : Led K H0 S H L I) (e : L[n]? = some (a, .raw (.lst xs))) (k : P a) : isL K (.ref a) H P := ⟨a, rfl, ⟨xs, h.sqL n e⟩, k⟩
theorem h_isLd {a : Addr} {ds : List PyData} {P : Addr → Prop} (n : Nat) (h : Led K H0 S H L I) (e : L[n]? = some (a, .dl ds)) (k : P a) : isL K (.ref a) H P := by
  obtain ⟨xs, ha, hx⟩ := h.at_ n a _ e
  exact ⟨a, rfl, ⟨xs, SqL.of ha⟩, k⟩
theorem h_isT {a : Addr} {ds : List PyData} {P : Addr → Prop} (h : Im K H (.ref a) (.tuple ds)) (k : P a) : isT K (.ref a) H P := by
  cases h with
  | tup hs ha => exact ⟨a, rfl, ⟨_, hs⟩, k⟩
theorem h_br {p : Prop} [Decidable p] {t u : TS} (h1 : p → t D σ H) (h2 : ¬ p → u D σ H) : Br (decide p) t u D σ H := by
  unfold Br
  by_cases h : p
  · rw [if_pos (decide_eq_true h)]
    exact h1 h
  · rw [if_neg (by rw [decide_eq_false h]; exact Bool.false_ne_true)]
    exact h2 h
theorem h_brn {p : Prop} [Decidable p] {t u : TS} (h1 : ¬ p → t D σ H) (h2 : p → u D σ H) : Br (!decide p) t u D σ H := by
  unfold Br
  by_cases h : p
  · rw [decide_eq_true h]
    exact iteF (h2 h)
  · rw [decide_eq_false h]
    exact iteT (h1 h)
theorem h_brb {b : Bool} {t u : TS} (h1 : b = true → t D σ H) (h2 : b = false → u D σ H) : Br b t u D σ H := by
  cases b
  · exact iteF (h2 rfl)
  · exact iteT (h1 rfl)
theorem h_brE {p : Prop} [Decidable p] {t u : TE} (h1 : p → t σ H Q) (h2 : ¬ p → u σ H Q) : BrE (decide p) t u Q σ H := by
  unfold BrE
  by_cases h : p
  · rw [if_pos (decide_eq_true h)]
    exact h1 h
  · rw [if_neg (by rw [decide_eq_false h]; exact Bool.false_ne_true)]
    exact h2 h
theorem h_brEb {b : Bool} {t u : TE} (h1 : b = true → t σ H Q) (h2 : b = false → u σ H Q) : BrE b t u Q σ H := by
  cases b
  · exact iteF (h2 rfl)
  · exact iteT (h1 rfl)
theorem h_brS {a b : Str} {t u : TS} (h1 : a = b → t D σ H) (h2 : ¬ a = b → u D σ H) : Br (eqS a b) t u D σ H := h_br h1 h2
theorem h_brSn {a b : Str} {t u : TS} (h1 : ¬ a = b → t D σ H) (h2 : a = b → u D σ H) : Br (!eqS a b) t u D σ H := h_brn h1 h2
theorem h_brES {a b : Str} {t u : TE} (h1 : a = b → t σ H Q) (h2 : ¬ a = b → u σ H Q) : BrE (eqS a b) t u Q σ H := h_brE h1 h2
theorem h_brT {t u : TS} (h1 : t D σ H) : Br true t u D σ H := iteT h1
theorem h_brF {t u : TS} (h1 : u D σ H) : Br false t u D σ H := iteF h1
theorem h_brET {t u : TE} (h1 : t σ H Q) : BrE true t u Q σ H := iteT h1
theorem h_brEF {t u : TE} (h1 : u σ H Q) : BrE false t u Q σ H := iteF h1
theorem h_ite {p A B : Prop} [Decidable p] (h1 : p → A) (h2 : ¬ p → B) : if decide p = true then A else B := by
  by_cases h : p
  · rw [if_pos (decide_eq_true h)]
    exact h1 h
  · rw [if_neg (by rw [decide_eq_false h]; exact Bool.false_ne_true)]
    exact h2 h
theorem h_itn {p A B : Prop} [Decidable p] (h1 : ¬ p → A) (h2 : p → B) : if (!decide p) = true then A else B := by
  by_cases h : p
  · rw [decide_eq_true h]
    exact iteF (h2 h)
  · rw [decide_eq_false h]
    exact iteT (h1 h)
theorem h_itb {b : Bool} {A B : Prop} (h1 : b = true → A) (h2 : b = false → B) : if b = true then A else B := by
  cases b
  · exact iteF (h2 rfl)
  · exact iteT (h1 rfl)
/-! ### numbers -/
theorem cdiv_ok {i j : Int} (h1 : 0 < j) (h2 : j < 2 ^ 64) : CDivW i j := wide_div (b := 64) h1 (by omega) (by decide) (by decide)
theorem cmul_l {i j : Int} (h1 : -(2 ^ 64) < i) (h2 : i < 2 ^ 64) : CMul i j := .inl ⟨h1, h2⟩
theorem cmul_r {i j : Int} (h1 : -(2 ^ 64) < j) (h2 : j < 2 ^ 64) : CMul i j := .inr ⟨h1, h2⟩
theorem h_mr {P : Prop} {i j : Int} (h1 : -(2 ^ 64) < j) (h2 : j < 2 ^ 64) (k : P) : CMul i j ∧ P := ⟨.inr ⟨h1, h2⟩, k⟩
theorem h_ml {P : Prop} {i j : Int} (h1 : -(2 ^ 64) < i) (h2 : i < 2 ^ 64) (k : P) : CMul i j ∧ P := ⟨.inl ⟨h1, h2⟩, k⟩
theorem h_dv {P : Prop} {i j : Int} (h1 : 0 < j) (h2 : j < 2 ^ 64) (k : P) : CDivW i j ∧ P := ⟨cdiv_ok h1 h2, k⟩
theorem h_pw {P : Prop} {i j : Int} (h1 : 0 ≤ j) (h2 : j ≤ 1000000) (h3 : i.natAbs < 2 ^ 64) (k : P) : CPow i j ∧ P := ⟨⟨h1, h2, h3⟩, k⟩
theorem cpow_ok {i j : Int} (h1 : 0 ≤ j) (h2 : j ≤ 1000000) (h3 : i.natAbs < 2 ^ 64) : CPow i j := ⟨h1, h2, h3⟩
theorem ixN_nn {n : Nat} {i : Int} (h0 : 0 ≤ i) (h : i < n) : ixN n i = some i.toNat := by
  unfold ixN
  rw [if_pos h0, if_pos h]
theorem at_ints {ns : List Int} {i : Int} (h0 : 0 ≤ i) (h : i < ns.length) : atI (ns.map V.int) i = some (.int (ns.getD i.toNat 0)) := by
  have h2 : i.toNat < ns.length := by omega
  refine at_nn h0 ?_
  rw [List.getElem?_map, List.getElem?_eq_getElem h2, List.getD_eq_getElem?_getD, List.getElem?_eq_getElem h2]
  rfl
/-! ### loops -/
theorem lpR {lo : Int} {n : Nat} (Pv : Nat → L2.St → Hp → Prop) (h0 : Pv 0 σ H)
    (hs : ∀ i σ H, i < n → Pv i σ H → g (.int (lo + i)) σ H fun σ2 H2 => tb { D with nx := Pv (i + 1), ct := Pv (i + 1), bk := D.nx } σ2 H2) (hd : ∀ σ H, Pv n σ H → D.nx σ H) : Lp (Itr lo n) g tb D σ H :=
  for_range Pv h0 hs hd
theorem lpL {a : Addr} {xs : List V} (Pv : Nat → L2.St → Hp → Prop) (h0 : Pv 0 σ H) (hl : ∀ i σ H, i ≤ xs.length → Pv i σ H → SqL K H a xs)
    (hs : ∀ i x σ H, xs[i]? = some x → Pv i σ H → g x σ H fun σ2 H2 => tb { D with nx := Pv (i + 1), ct := Pv (i + 1), bk := D.nx } σ2 H2) (hd : ∀ σ H, Pv xs.length σ H → D.nx σ H) : Lp (Itl K a) g tb D σ H :=
  for_list Pv h0 hl hs hd
theorem lpT {a : Addr} {xs : List V} (Pv : Nat → L2.St → Hp → Prop) (h0 : Pv 0 σ H) (hl : ∀ i σ H, i ≤ xs.length → Pv i σ H → SqT K H a xs)
    (hs : ∀ i x σ H, xs[i]? = some x → Pv i σ H → g x σ H fun σ2 H2 => tb { D with nx := Pv (i + 1), ct := Pv (i + 1), bk := D.nx } σ2 H2) (hd : ∀ σ H, Pv xs.length σ H → D.nx σ H) : Lp (Itt K a) g tb D σ H :=
  for_tup Pv h0 hl hs hd
/-- a list made; Pv: the list's place, the turn, the heap -/
theorem lcR {lo : Int} {n : Nat} (h : Led K H0 S H L I) (Pv : Addr → Nat → Hp → Prop) (h0 : ∀ p H', H0 p = none ∨ p ∈ S → Led K H0 S H' ((p, .raw (.lst [])) :: L) I → Pv p 0 H')
    (hs : ∀ p i H, i < n → Pv p i H → g (.int (lo + i)) (wipe σ vs) H fun σ2 H2 => wipe σ2 vs = wipe σ vs ∧ tt σ2 H2 fun b H3 =>
      if b = true then te σ2 H3 fun y H4 => ∃ acc, H4 p = some (.lst acc) ∧ acc.length < sizeLine ∧ Pv p (i + 1) (upd H4 p (.lst (acc ++ [y]))) else Pv p (i + 1) H3)
    (hd : ∀ p H, Pv p n H → Q (.ref p) H) : Lc (Itr lo n) g tt te vs σ H Q := fun p hp => lc_range (Pv p) (h0 p _ (h.fr hp) (h.alloc hp)) (hs p) (hd p)
theorem lcL {a : Addr} {xs : List V} (h : Led K H0 S H L I) (Pv : Addr → Nat → Hp → Prop) (h0 : ∀ p H', H0 p = none ∨ p ∈ S → Led K H0 S H' ((p, .raw (.lst [])) :: L) I → Pv p 0 H')
    (hl : ∀ p i H, i ≤ xs.length → Pv p i H → SqL K H a xs)
    (hs : ∀ p i x H, xs[i]? = some x → Pv p i H → g x (wipe σ vs) H fun σ2 H2 => wipe σ2 vs = wipe σ vs ∧ tt σ2 H2 fun b H3 =>
      if b = true then te σ2 H3 fun y H4 => ∃ acc, H4 p = some (.lst acc) ∧ acc.length < sizeLine ∧ Pv p (i + 1) (upd H4 p (.lst (acc ++ [y]))) else Pv p (i + 1) H3)
    (hd : ∀ p H, Pv p xs.length H → Q (.ref p) H) : Lc (Itl K a) g tt te vs σ H Q := fun p hp => lc_list (Pv p) (h0 p _ (h.fr hp) (h.alloc hp)) (hl p) (hs p) (hd p)
theorem lcT {a : Addr} {xs : List V} (h : Led K H0 S H L I) (Pv : Addr → Nat → Hp → Prop) (h0 : ∀ p H', H0 p = none ∨ p ∈ S → Led K H0 S H' ((p, .raw (.lst [])) :: L) I → Pv p 0 H')
    (hl : ∀ p i H, i ≤ xs.length → Pv p i H → SqT K H a xs)
    (hs : ∀ p i x H, xs[i]? = some x → Pv p i H → g x (wipe σ vs) H fun σ2 H2 => wipe σ2 vs = wipe σ vs ∧ tt σ2 H2 fun b H3 =>
      if b = true then te σ2 H3 fun y H4 => ∃ acc, H4 p = some (.lst acc) ∧ acc.length < sizeLine ∧ Pv p (i + 1) (upd H4 p (.lst (acc ++ [y]))) else Pv p (i + 1) H3)
    (hd : ∀ p H, Pv p xs.length H → Q (.ref p) H) : Lc (Itt K a) g tt te vs σ H Q := fun p hp => lc_tup (Pv p) (h0 p _ (h.fr hp) (h.alloc hp)) (hl p) (hs p) (hd p)
/-- the element comes to the list -/
theorem h_lcE {p : Addr} {acc : List V} {P : Hp → Prop} (n : Nat) (h : Led K H0 S H L I) (e : L[n]? = some (p, .raw (.lst acc))) (hs : H0 p = none ∨ p ∈ S) (z : acc.length < sizeLine)
    (k : ∀ H', Led K H0 S H' (L.set n (p, .raw (.lst (acc ++ [y])))) I → P H') : ∃ acc, H p = some (.lst acc) ∧ acc.length < sizeLine ∧ P (upd H p (.lst (acc ++ [y]))) :=
  ⟨acc, h.raw n e, z, k _ (h.wr n e (fun b o q hb => by rw [upd_ne (by simpa using hb)]; exact q) (h.raw n e) rfl upd_same hs)⟩
theorem h_lcD {p : Addr} {ds : List PyData} {d : PyData} {P : Hp → Prop} (n : Nat) (h : Led K H0 S H L I) (e : L[n]? = some (p, .dl ds)) (hd : Im K H y d) (hs : H0 p = none ∨ p ∈ S) (z : ds.length < sizeLine)
    (k : ∀ H', Led K H0 S H' (L.set n (p, .dl (ds ++ [d]))) I → P H') : ∃ acc, H p = some (.lst acc) ∧ acc.length < sizeLine ∧ P (upd H p (.lst (acc ++ [y]))) := by
  obtain ⟨xs, ha, hx⟩ := h.at_ n p _ e
  have hk : KBs H (upd H p (.lst (xs ++ [y]))) [p] := fun b o q hb => by rw [upd_ne (by simpa using hb)]; exact q
  have hN : NoT H [p] := NoT.one ha rfl
  exact ⟨xs, ha, by rw [hx.len]; exact z, k _ (h.wr n e hk ha rfl ⟨_, upd_same, (hx.keep hk hN).app (Ims.one (hd.keep hk hN))⟩ hs)⟩
theorem h_accL {p : Addr} {acc : List V} (n : Nat) (h : Led K H0 S H L I) (e : L[n]? = some (p, .raw (.lst acc))) (hs : H0 p = none ∨ p ∈ S) (z : acc.length < sizeLine) :
    ∃ acc', H p = some (.lst acc') ∧ acc'.length < sizeLine ∧ Led K H0 S (upd H p (.lst (acc' ++ [y]))) (L.set n (p, .raw (.lst (acc ++ [y])))) I :=
  h_lcE (P := fun H' => Led K H0 S H' (L.set n (p, .raw (.lst (acc ++ [y])))) I) n h e hs z fun H' h' => h'
theorem h_accD {p : Addr} {ds : List PyData} {d : PyData} (n : Nat) (h : Led K H0 S H L I) (e : L[n]? = some (p, .dl ds)) (hd : Im K H y d) (hs : H0 p = none ∨ p ∈ S) (z : ds.length < sizeLine) :
    ∃ acc, H p = some (.lst acc) ∧ acc.length < sizeLine ∧ Led K H0 S (upd H p (.lst (acc ++ [y]))) (L.set n (p, .dl (ds ++ [d]))) I :=
  h_lcD (P := fun H' => Led K H0 S H' (L.set n (p, .dl (ds ++ [d]))) I) n h e hd hs z fun H' h' => h'
theorem h_nT {A B : Prop} (k : B) : if (!true) = true then A else B := iteF k
theorem h_nF {A B : Prop} (k : A) : if (!false) = true then A else B := iteT k
theorem h_eqr {α : Type} {a : α} {P : Prop} (k : P) : a = a ∧ P := ⟨rfl, k⟩
/-- a while by an invariant and a number that falls -/
theorem lpW {c : TT} (Pv : Nat → L2.St → Hp → Prop) (m0 : Nat) (h0 : Pv m0 σ H)
    (hs : ∀ m σ H, Pv m σ H → c σ H fun b H1 => if b = true then ∃ N : L2.St → Hp → Prop, (∀ σ' H', N σ' H' → ∃ m', m' < m ∧ Pv m' σ' H') ∧ tb { D with nx := N, ct := N, bk := D.nx } σ H1 else D.nx σ H1) : tWhile c tb D σ H :=
  ⟨Pv, ⟨m0, h0⟩, hs⟩
/-- a list of ints, from a list of numbers -/
theorem Led.toD (h : Led K H0 S H L I) (n : Nat) {a : Addr} {xs : List V} {ds : List PyData} (e : L[n]? = some (a, .raw (.lst xs))) (hd : Ims K H xs ds) : Led K H0 S H (L.set n (a, .dl ds)) I := by
  have hn : n < L.length := (List.getElem?_eq_some_iff.mp e).1
  refine ⟨?_, fun m b x r => ?_, h.im, h.kp⟩
  · have e2 : (L.set n (a, Ent.dl ds)).map (·.1) = L.map (·.1) := by
      rw [List.map_set]
      refine List.ext_getElem? fun i => ?_
      by_cases hi : n = i
      · subst hi
        rw [List.getElem?_set_self (by rw [List.length_map]; exact hn), List.getElem?_map, e]
        rfl
      · rw [List.getElem?_set_ne hi]
    rw [e2]
    exact h.nd
  · by_cases hm : n = m
    · subst hm
      rw [List.getElem?_set_self hn] at r
      cases r
      exact ⟨xs, h.raw n e, hd⟩
    · rw [List.getElem?_set_ne hm] at r
      exact h.at_ m b x r
/-- loops over data -/
theorem Im.isRef {ds : List PyData} (h : Im K H v (.tuple ds)) : ∃ a, v = .ref a := by
  cases h with
  | tup _ _ => exact ⟨_, rfl⟩
theorem lpTI {a : Addr} {ds : List PyData} (Pv : Nat → L2.St → Hp → Prop) (h0 : Pv 0 σ H) (hl : ∀ i σ H, i ≤ ds.length → Pv i σ H → Im K H (.ref a) (.tuple ds))
    (hs : ∀ i x d σ H, ds[i]? = some d → Im K H x d → Pv i σ H → g x σ H fun σ2 H2 => tb { D with nx := Pv (i + 1), ct := Pv (i + 1), bk := D.nx } σ2 H2) (hd : ∀ σ H, Pv ds.length σ H → D.nx σ H) : Lp (Itt K a) g tb D σ H := by
  refine ⟨fun i m σ H => m = ds.length - i ∧ i ≤ ds.length ∧ Pv i σ H, ⟨ds.length, rfl, Nat.zero_le _, h0⟩, ?_⟩
  rintro i m σ H ⟨rfl, hi, p⟩
  cases hl i σ H hi p with
  | @tup _ xs _ hq hx =>
    have hlen := hx.len
    by_cases hlt : i < ds.length
    · have hlt2 : i < xs.length := by omega
      refine .inr ⟨⟨xs, xs[i], hq, List.getElem?_eq_getElem hlt2⟩, Pv (i + 1), fun σ' H' p' => ⟨ds.length - (i + 1), by omega, rfl, hlt, p'⟩, fun x H' y => ?_⟩
      obtain ⟨e, y⟩ := y
      subst e
      obtain ⟨d, hd1, hd2⟩ := hx.get (y xs hq)
      exact hs i x d σ _ hd1 hd2 p
    · have e : i = ds.length := by omega
      subst e
      exact .inl ⟨⟨xs, hq, by omega⟩, hd σ H p⟩
theorem lpLD {a : Addr} {ds : List PyData} (Pv : Nat → L2.St → Hp → Prop) (h0 : Pv 0 σ H) (hl : ∀ i σ H, i ≤ ds.length → Pv i σ H → EntAt K H a (.dl ds))
    (hs : ∀ i x d σ H, ds[i]? = some d → Im K H x d → Pv i σ H → g x σ H fun σ2 H2 => tb { D with nx := Pv (i + 1), ct := Pv (i + 1), bk := D.nx } σ2 H2) (hd : ∀ σ H, Pv ds.length σ H → D.nx σ H) : Lp (Itl K a) g tb D σ H := by
  refine ⟨fun i m σ H => m = ds.length - i ∧ i ≤ ds.length ∧ Pv i σ H, ⟨ds.length, rfl, Nat.zero_le _, h0⟩, ?_⟩
  rintro i m σ H ⟨rfl, hi, p⟩
  obtain ⟨xs, ha, hx⟩ := hl i σ H hi p
  have hq : SqL K H a xs := SqL.of ha
  have hlen := hx.len
  by_cases hlt : i < ds.length
  · have hlt2 : i < xs.length := by omega
    refine .inr ⟨⟨xs, xs[i], hq, List.getElem?_eq_getElem hlt2⟩, Pv (i + 1), fun σ' H' p' => ⟨ds.length - (i + 1), by omega, rfl, hlt, p'⟩, fun x H' y => ?_⟩
    obtain ⟨e, y⟩ := y
    subst e
    obtain ⟨d, hd1, hd2⟩ := hx.get (y xs hq)
    exact hs i x d σ _ hd1 hd2 p
  · have e : i = ds.length := by omega
    subst e
    exact .inl ⟨⟨xs, hq, by omega⟩, hd σ H p⟩
theorem lcLD {a : Addr} {ds : List PyData} (h : Led K H0 S H L I) (Pv : Addr → Nat → Hp → Prop) (h0 : ∀ p H', H0 p = none ∨ p ∈ S → Led K H0 S H' ((p, .raw (.lst [])) :: L) I → Pv p 0 H')
    (hl : ∀ p i H, i ≤ ds.length → Pv p i H → EntAt K H a (.dl ds))
    (hs : ∀ p i x d H, ds[i]? = some d → Im K H x d → Pv p i H → g x (wipe σ vs) H fun σ2 H2 => wipe σ2 vs = wipe σ vs ∧ tt σ2 H2 fun b H3 =>
      if b = true then te σ2 H3 fun y H4 => ∃ acc, H4 p = some (.lst acc) ∧ acc.length < sizeLine ∧ Pv p (i + 1) (upd H4 p (.lst (acc ++ [y]))) else Pv p (i + 1) H3)
    (hd : ∀ p H, Pv p ds.length H → Q (.ref p) H) : Lc (Itl K a) g tt te vs σ H Q := by
  intro p hp
  refine ⟨fun i m H => m = ds.length - i ∧ i ≤ ds.length ∧ Pv p i H, ⟨ds.length, rfl, Nat.zero_le _, h0 p _ (h.fr hp) (h.alloc hp)⟩, ?_⟩
  rintro i m H ⟨rfl, hi, q⟩
  obtain ⟨xs, ha, hx⟩ := hl p i H hi q
  have hq : SqL K H a xs := SqL.of ha
  have hlen := hx.len
  by_cases hlt : i < ds.length
  · have hlt2 : i < xs.length := by omega
    refine .inr ⟨⟨xs, xs[i], hq, List.getElem?_eq_getElem hlt2⟩, Pv p (i + 1), fun H' p' => ⟨ds.length - (i + 1), by omega, rfl, hlt, p'⟩, fun x H' y => ?_⟩
    obtain ⟨e, y⟩ := y
    subst e
    obtain ⟨d, hd1, hd2⟩ := hx.get (y xs hq)
    exact hs p i x d _ hd1 hd2 q
  · have e : i = ds.length := by omega
    subst e
    exact .inl ⟨⟨xs, hq, by omega⟩, hd p H q⟩
/-- data's form -/
def lay (n : Nat) (d : PyData) : Prop := d.canLay0 = true ∧ d.depth ≤ n
theorem lay_all : ∀ {n : Nat} {ds : List PyData}, (∀ d ∈ ds, lay n d) → PyData.canLayAll0 ds = true ∧ PyData.depthAll ds ≤ n
  | n, [], _ => ⟨by simp [PyData.canLayAll0], by simp [PyData.depthAll]⟩
  | n, d :: ds, h => by
    obtain ⟨h1, h2⟩ := h d List.mem_cons_self
    obtain ⟨h3, h4⟩ := lay_all (n := n) (ds := ds) fun x hx => h x (List.mem_cons_of_mem _ hx)
    refine ⟨by simp [PyData.canLayAll0, h1, h3], ?_⟩
    simp only [PyData.depthAll]
    omega
theorem lay_list {n : Nat} {ds : List PyData} (h : ∀ d ∈ ds, lay n d) : lay (n + 1) (.list ds) := by
  obtain ⟨h1, h2⟩ := lay_all h
  refine ⟨by simp [PyData.canLay0, h1], ?_⟩
  simp only [PyData.depth]
  omega
theorem lay_tup {n : Nat} {ds : List PyData} (h : ∀ d ∈ ds, lay n d) : lay (n + 1) (.tuple ds) := by
  obtain ⟨h1, h2⟩ := lay_all h
  refine ⟨by simp [PyData.canLay0, h1], ?_⟩
  simp only [PyData.depth]
  omega
theorem lay.shaped {n : Nat} {d : PyData} (h : lay n d) (hn : n ≤ 64 := by decide) : SeqAt.shaped d = true := by
  unfold SeqAt.shaped
  rw [h.1, decide_eq_true (Nat.le_trans h.2 hn)]
  rfl
theorem lay_int (i : Int) : lay 0 (.int i) := ⟨by simp [PyData.canLay0], by simp [PyData.depth]⟩
theorem lay_bool (b : Bool) : lay 0 (.bool b) := ⟨by simp [PyData.canLay0], by simp [PyData.depth]⟩
theorem lay_none : lay 0 .none := ⟨by simp [PyData.canLay0], by simp [PyData.depth]⟩
theorem lay_str {x : Str} (h : PyData.strOk x = true) : lay 0 (.str x) := ⟨by simp [PyData.canLay0, h], by simp [PyData.depth]⟩
theorem lay.up {n m : Nat} {d : PyData} (h : lay n d) (hm : n ≤ m) : lay m d := ⟨h.1, Nat.le_trans h.2 hm⟩
/-- in, not in -/
theorem Led.dpL (h : Led K H0 S H L I) (n : Nat) {a : Addr} {ds : List PyData} (e : L[n]? = some (a, .dl ds)) : Dp K H (.ref a) (.list ds) := by
  obtain ⟨xs, ha, hx⟩ := h.at_ n a _ e
  exact .lst (SqL.of ha) hx.dp
theorem h_ninD (n : Nat) (h : Led K H0 S H L I) {a : Addr} {ds : List PyData} {d : PyData} (e : L[n]? = some (a, .dl ds)) (hx : Im K H x d) (h1 : SeqAt.shaped d = true) (h2 : SeqAt.shaped (.list ds) = true) (k : Q (.bl (!ds.any fun z => PyData.eqv z d)) H) : uNin K x (.ref a) H Q :=
  .inr ⟨d, ds, hx.dp, h.dpL n e, h1, h2, k⟩
theorem h_inD (n : Nat) (h : Led K H0 S H L I) {a : Addr} {ds : List PyData} {d : PyData} (e : L[n]? = some (a, .dl ds)) (hx : Im K H x d) (h1 : SeqAt.shaped d = true) (h2 : SeqAt.shaped (.list ds) = true) (k : Q (.bl (ds.any fun z => PyData.eqv z d)) H) : uIn K x (.ref a) H Q :=
  .inr ⟨d, ds, hx.dp, h.dpL n e, h1, h2, k⟩
theorem at_map {α : Type} {f : α → V} {l : List α} {i : Int} (h0 : 0 ≤ i) (h : i < l.length) : ∃ z ∈ l, l[i.toNat]? = some z ∧ atI (l.map f) i = some (f z) := by
  have h2 : i.toNat < l.length := by omega
  refine ⟨l[i.toNat], List.getElem_mem h2, List.getElem?_eq_getElem h2, at_nn h0 ?_⟩
  rw [List.getElem?_map, List.getElem?_eq_getElem h2]
  rfl
/-- slices of tuples -/
def cutD (xs : List PyData) (lo hi : Option Int) : List PyData := (xs.drop (HT.sIx xs.length 0 lo)).take (HT.sIx xs.length xs.length hi - HT.sIx xs.length 0 lo)
theorem h_slT {a : Addr} {ds : List PyData} {lo hi : Option Int} (h : Led K H0 S H L I) (hd : Im K H (.ref a) (.tuple ds)) (k : ∀ p H', Led K H0 S H' L ((.ref p, .tuple (cutD ds lo hi)) :: I) → Q (.ref p) H') : uSl K (.ref a) lo hi H Q := by
  cases id hd with
  | @tup _ xs _ hq hx =>
    have hlen := hx.len
    refine .inr (.inl ⟨a, xs, rfl, hq, fun hw => ?_, fun hw p hp => ?_⟩)
    · refine k a H (h.imNew ?_)
      have e : cutD ds lo hi = ds := by
        unfold cutD
        rw [← hlen, hw.1, hw.2, hlen, List.drop_zero]
        exact List.take_of_length_le (Nat.le_refl _)
      rw [e]
      exact hd
    · refine k p _ (h.allocT hp ?_)
      unfold cutD cutV
      rw [hlen]
      exact Ims.take _ (Ims.drop _ hx)
theorem cutD_pre (ds : List PyData) (k : Nat) : cutD ds none (some (k : Int)) = ds.take k := by
  unfold cutD
  rw [HT.sIx_none, HT.sIx_nat, List.drop_zero, Nat.sub_zero]
  by_cases h : k ≤ ds.length
  · rw [Nat.min_eq_left h]
  · rw [Nat.min_eq_right (by omega), List.take_of_length_le (Nat.le_refl _), List.take_of_length_le (by omega)]
theorem cutD_suf (ds : List PyData) (k : Nat) : cutD ds (some (k : Int)) none = ds.drop k := by
  unfold cutD
  rw [HT.sIx_none, HT.sIx_nat]
  by_cases h : k ≤ ds.length
  · rw [Nat.min_eq_left h]
    exact List.take_of_length_le (by rw [List.length_drop]; exact Nat.le_refl _)
  · rw [Nat.min_eq_right (by omega), List.drop_eq_nil_of_le (Nat.le_refl _), List.drop_eq_nil_of_le (by omega), List.take_nil]
theorem h_slPre {a : Addr} {ds : List PyData} (h : Led K H0 S H L I) (hd : Im K H (.ref a) (.tuple ds)) (h0 : 0 ≤ i) (k : ∀ p H', Led K H0 S H' L ((.ref p, .tuple (ds.take i.toNat)) :: I) → Q (.ref p) H') : uSl K (.ref a) none (some i) H Q :=
  h_slT h hd fun p H' h' => k p H' (by
    have e : cutD ds none (some i) = ds.take i.toNat := by
      have q := cutD_pre ds i.toNat
      rw [Int.toNat_of_nonneg h0] at q
      exact q
    rw [e] at h'
    exact h')
/-- == of data -/
theorem h_eqD {d e : PyData} (hx : Dp K H x d) (hy : Dp K H y e) (h1 : SeqAt.shaped d = true) (h2 : SeqAt.shaped e = true) (k : Q (.bl (PyData.eqv d e)) H) : hEq K x y H Q := .inr ⟨d, e, hx, hy, h1, h2, k⟩
theorem h_neD {d e : PyData} (hx : Dp K H x d) (hy : Dp K H y e) (h1 : SeqAt.shaped d = true) (h2 : SeqAt.shaped e = true) (k : Q (.bl (!PyData.eqv d e)) H) : hNe K x y H Q := .inr ⟨d, e, hx, hy, h1, h2, k⟩
theorem h_eqI {d e : PyData} (hx : Im K H x d) (hy : Im K H y e) (h1 : SeqAt.shaped d = true) (h2 : SeqAt.shaped e = true) (k : Q (.bl (PyData.eqv d e)) H) : hEq K x y H Q := h_eqD hx.dp hy.dp h1 h2 k
theorem h_neI {d e : PyData} (hx : Im K H x d) (hy : Im K H y e) (h1 : SeqAt.shaped d = true) (h2 : SeqAt.shaped e = true) (k : Q (.bl (!PyData.eqv d e)) H) : hNe K x y H Q := h_neD hx.dp hy.dp h1 h2 k
/-- tuple(list) -/
theorem h_tupOf (n : Nat) (h : Led K H0 S H L I) {a : Addr} {ds : List PyData} (e : L[n]? = some (a, .dl ds)) (k : ∀ p H', Led K H0 S H' L ((.ref p, .tuple ds) :: I) → Q (.ref p) H') : hTupOf K [.ref a] H Q := by
  obtain ⟨xs, ha, hx⟩ := h.at_ n a _ e
  exact ⟨a, xs, rfl, .inl ⟨SqL.of ha, fun p hp => k p _ (h.allocT hp hx)⟩⟩
theorem h_listOf (n : Nat) (h : Led K H0 S H L I) {a : Addr} {xs : List V} (e : L[n]? = some (a, .raw (.lst xs))) (k : ∀ p H', (H0 p = none ∨ p ∈ S) → Led K H0 S H' ((p, .raw (.lst xs)) :: L) I → Q (.ref p) H') : hListOf K [.ref a] H Q :=
  ⟨a, xs, rfl, .inl (h.sqL n e), fun p hp => k p _ (h.fr hp) (h.alloc hp)⟩
/-- isinstance of a bool, an int -/
theorem h_isiB {b : Bool} (k : Q (.bl true) H) : rIsi K [.bl b, .ty "bool"] H Q := ⟨_, _, _, _, true, rfl, .ty "bool", .base (.bl b), kit_ty (by decide +kernel), k⟩
theorem Led.tl {q : V × PyData} (h : Led K H0 S H L (q :: I)) : Led K H0 S H L I := ⟨h.nd, h.at_, fun n v d e => h.im (n + 1) v d e, h.kp⟩
theorem Led.tlL {q : Addr × Ent} (h : Led K H0 S H (q :: L) I) : Led K H0 S H L I := ⟨(List.nodup_cons.mp h.nd).2, fun n a d e => h.at_ (n + 1) a d e, h.im, h.kp⟩
theorem Led.noI (h : Led K H0 S H L I) : Led K H0 S H L [] := ⟨h.nd, h.at_, fun n v d e => by simp at e, h.kp⟩
theorem any_take {α : Type} {l : List α} {i : Nat} {x : α} (h : l[i]? = some x) (f : α → Bool) : (l.take (i + 1)).any f = ((l.take i).any f || f x) := by
  rw [List.take_add_one, h, List.any_append]
  simp
theorem any_of {α : Type} {l : List α} {i : Nat} {x : α} (h : l[i]? = some x) {f : α → Bool} (hf : f x = true) : l.any f = true := List.any_eq_true.mpr ⟨x, List.mem_of_getElem? h, hf⟩
theorem map_get {α β : Type} {f : α → β} {l : List α} {i : Nat} {d : β} (h : (l.map f)[i]? = some d) : ∃ z, l[i]? = some z ∧ f z = d := by
  rw [List.getElem?_map] at h
  exact Option.map_eq_some_iff.mp h
theorem map_take {α β : Type} {l : List α} {i : Nat} {x : α} (h : l[i]? = some x) (f : α → β) : (l.take i).map f ++ [f x] = (l.take (i + 1)).map f := by
  rw [List.take_add_one, h, List.map_append]
  rfl
theorem snoc_map {α β : Type} (l : List α) (x : α) (f : α → β) : l.map f ++ [f x] = (l ++ [x]).map f := by rw [List.map_append]; rfl
theorem map_snoc (ds : List Int) (z : Int) : ds.map V.int ++ [V.int z] = (ds ++ [z]).map V.int := by rw [List.map_append]; rfl
/-- unpacking -/
theorem h_gtup {n : Nat} {a : Addr} {ds : List PyData} {gs : TGs} {Q : L2.St → Hp → Prop} (h : Im K H (.ref a) (.tuple ds)) (hn : ds.length = n) (k : ∀ xs, Ims K H xs ds → gs xs σ H Q) : gTup K n gs (.ref a) σ H Q := by
  cases h with
  | tup hs ha => exact ⟨a, _, rfl, hs, ha.len.trans hn, k _ ha⟩
theorem h_gtup2 {a : Addr} {d1 d2 : PyData} {gs : TGs} {Q : L2.St → Hp → Prop} (h : Im K H (.ref a) (.tuple [d1, d2])) (k : ∀ v1 v2, Im K H v1 d1 → Im K H v2 d2 → gs [v1, v2] σ H Q) : gTup K 2 gs (.ref a) σ H Q :=
  h_gtup h rfl fun xs hx => by
    cases hx with
    | cons h1 t =>
      cases t with
      | cons h2 t =>
        cases t
        exact k _ _ h1 h2
end

/-! ### raise and try -/
def mRaise0 (C : Addr) (W : WX) : TS := fun _ σ H => W (.ref C) none σ H
/-- isinstance of a caught error without fields -/
def rIsX (K : PySem.W.Frag) (cls : Value) (d : Option Addr) (a : Addr) : RCall := fun xs H Q => ∃ (c : V) (cv : Value) (D : Addr) (b : Bool), cls = .ref D ∧ d = none ∧ ExcC K D ∧ xs = [.ref a, c] ∧ (∀ u, RelV c u → u = cv) ∧ PySem.W.kitOne K (.ref D) cv = some b ∧ Q (.bl b) H
abbrev TCl := Addr → Value → Option Addr → TS
def mTryAs (K : PySem.W.Frag) (c : Value) (i : Nat) (tb : WX → TS) (ts : TCl) (Wout : WX) : TS := fun D σ H => tb (wAs K c i ts Wout D) D σ H
def mTryOnly (K : PySem.W.Frag) (c : Value) (tb : WX → TS) (ts : TCl) (Wout : WX) : TS := fun D σ H => tb (wOnly K c ts Wout D) D σ H
def wNo : WX := fun _ _ _ _ => False
section
variable {X : Cx}
theorem pmk_own0 {C : Addr} {bmB : List Value} {B newId initId : String} {x : Str} {p pos : Pos} (F : ExcBaseFacts B newId initId bmB) (q : PySem.W.excIn X.K C bmB newId = true) (gC : X.mg x = some (.ref C)) (kC : PySem.W.keepIn X.K (.ref C) = true) (r : Raises X (.ref C)) (hg : Gl X x)
    (hdb : (x == ("__debug__" : Str)) = false := by decide) : PMk X (.Call (.Name x p) [] [] pos) (fun _ H Q => Q (.ref C) none H) := by
  intro pins s σ H Q I h
  refine wpAny_Call_Name_kw (ld_glob I hg gC ?_ hdb)
  refine PySem.W.callWith_K0 I.kIn kC ?_
  show wpAny _ _ (call (.ref C) []) _ _ _
  obtain ⟨bm, N, nm, qn, bs, hdct, sn, sub, ab, col, dd, k0, k1, k2, k3, k5, mN, hC, hN, hni, T⟩ := exc_obj I.kIn q
  refine wpAny_call_exc_subT F T hC hN hni (fun h' e hm => ?_) (Nat.zero_le _)
  exact mk_of I hm r h (I.hok.gone hm.new)
theorem p_raise0 {W : WX} {C : Addr} {bmB : List Value} {B newId initId : String} {x : Str} {p pos pos2 : Pos} (hc : X.calm = true) (tk : Takes X W) (F : ExcBaseFacts B newId initId bmB) (q : PySem.W.excIn X.K C bmB newId = true) (gC : X.mg x = some (.ref C)) (kC : PySem.W.keepIn X.K (.ref C) = true) (b1 : PySem.W.subIn X.K (.ref C) (.type "BaseException") = some true) (b2 : PySem.W.typeIn X.K (.ref C) = some (.type "type")) (hg : Gl X x)
    (hdb : (x == ("__debug__" : Str)) = false := by decide) : PS X (.Raise (some (.Call (.Name x p) [] [] pos)) none pos2) (mRaise0 C W) := ps_raise hc tk (pmk_own0 F q gC kC (raises_own b1 b2) hg hdb)
theorem call_isX {a : Addr} {cls : Value} {d : Option Addr} {oe : Obj} {pn : List (Addr × Obj)} (hz : Zc cls d oe) (hf : ∃ vs, oe.data = .fields vs) : CallR (X.suite a ((a, oe) :: pn)) (.builtin "isinstance") (rIsX X.K cls d a) := by
  intro pins s σ H xs us Q I r h
  obtain ⟨c, cv, D, b, rfl, rfl, C, hx, hcv, e, q⟩ := h
  exact call_isE C hz hf pins s σ H xs us Q I r ⟨c, cv, b, hx, hcv, e, q⟩
theorem p_tryAs {x n : Str} {c : Value} {i : Nat} {body suite : List Stmt} {b₀ : Stmt} {np pos pos' : Pos} {tb : WX → TS} {ts : TCl} {Wout : WX} (hs : X.stack = X.env :: X.outer) (hf : X.env.frame = some X.env.locals) (hN : X.N.Nodup) (hi : X.N[i]? = some n) (hln : X.env.kindOf n = some .local) (hc : Names X x c) (tk : Takes X Wout)
    (hb : ∀ (W : WX) (pn : List (Addr × Obj)) (xe : Value → Shared → Prop), Takes (X.tr pn xe) W → PassesOwn (model X.prog X.w) X.A X.env xe → PSs (X.tr pn xe) body (tb W))
    (hsu : ∀ (a : Addr) (oe : Obj) (cls : Value) (d : Option Addr) (pn : List (Addr × Obj)), Zc cls d oe → (∃ vs, oe.data = .fields vs) → PSs (X.suite a ((a, oe) :: pn)) (b₀ :: suite) (ts a cls d)) :
    PS X (.Try body [.ExceptHandler (some (.Name x np)) (some n) (b₀ :: suite) pos'] [] [] pos) (mTryAs X.K c i tb ts Wout) := ps_try_as hs hf hN hi hln hc tk hb hsu
theorem p_tryOnly {x : Str} {c : Value} {body suite : List Stmt} {b₀ : Stmt} {np pos pos' : Pos} {tb : WX → TS} {ts : TCl} {Wout : WX} (hs : X.stack = X.env :: X.outer) (hf : X.env.frame = some X.env.locals) (hc : Names X x c) (tk : Takes X Wout)
    (hb : ∀ (W : WX) (pn : List (Addr × Obj)) (xe : Value → Shared → Prop), Takes (X.tr pn xe) W → PassesOwn (model X.prog X.w) X.A X.env xe → PSs (X.tr pn xe) body (tb W))
    (hsu : ∀ (a : Addr) (oe : Obj) (cls : Value) (d : Option Addr) (pn : List (Addr × Obj)), Zc cls d oe → (∃ vs, oe.data = .fields vs) → PSs (X.suite a ((a, oe) :: pn)) (b₀ :: suite) (ts a cls d)) :
    PS X (.Try body [.ExceptHandler (some (.Name x np)) none (b₀ :: suite) pos'] [] [] pos) (mTryOnly X.K c tb ts Wout) := ps_try_only hs hf hc tk hb hsu
theorem takesNo {X : Cx} : Takes X wNo := takes0
end
theorem exm_r {K : PySem.W.Frag} {C : Addr} {cls : Value} {b : Bool} (h1 : PySem.W.subIn K (.ref C) (.type "BaseException") = some true) (h2 : PySem.W.isClsIn K C = true) (h3 : PySem.W.typeIn K (.ref C) = some (.type "type")) (h4 : PySem.W.subIn K cls (.ref C) = some b) : PySem.W.exmOne K cls (.ref C) = some b := by
  have e1 : (PySem.W.subIn K (.ref C) (.type "BaseException") == some true) = true := by rw [h1] <;> rfl
  have h2' : (PySem.W.clsIn K C).isSome = true := h2
  have e2 : ((PySem.W.clsIn K C).isSome && PySem.W.typeIn K (.ref C) == some (.type "type")) = true := by rw [h2', h3] <;> rfl
  show (if (PySem.W.subIn K (.ref C) (.type "BaseException") == some true) = true then (if ((PySem.W.clsIn K C).isSome && PySem.W.typeIn K (.ref C) == some (.type "type")) = true then PySem.W.subIn K cls (.ref C) else none) else none) = some b
  rw [if_pos e1, if_pos e2]
  exact h4
theorem kit_r {K : PySem.W.Frag} {C D : Addr} {b : Bool} (h2 : PySem.W.isClsIn K C = true) (h3 : PySem.W.typeIn K (.ref C) = some (.type "type")) (h4 : PySem.W.subIn K (.ref D) (.ref C) = some b) (h5 : D = C → b = true) : PySem.W.kitOne K (.ref D) (.ref C) = some b := by
  have h2' : (PySem.W.clsIn K C).isSome = true := h2
  have e2 : ((PySem.W.clsIn K C).isSome && PySem.W.typeIn K (.ref C) == some (.type "type")) = true := by rw [h2', h3] <;> rfl
  unfold PySem.W.kitOne
  by_cases h : (Value.ref D == Value.ref C) = true
  · rw [if_pos h, h5 (Value.ref.inj (beq_iff_eq.mp h))]
  · rw [if_neg h]
    show (if ((PySem.W.clsIn K C).isSome && PySem.W.typeIn K (.ref C) == some (.type "type")) = true then PySem.W.subIn K (.ref D) (.ref C) else none) = some b
    rw [if_pos e2]
    exact h4
theorem kit_t {K : PySem.W.Frag} {D : Addr} {T : String} {b : Bool} (h2 : PySem.W.kitMeta T = true) (h4 : PySem.W.subIn K (.ref D) (.type T) = some b) : PySem.W.kitOne K (.ref D) (.type T) = some b := by
  unfold PySem.W.kitOne
  rw [if_neg (by intro h; exact nomatch beq_iff_eq.mp h)]
  show (if PySem.W.kitMeta T = true then PySem.W.subIn K (.ref D) (.type T) else none) = some b
  rw [if_pos h2]
  exact h4
/-- a copy the other way round -/
def revK (K : PySem.W.Frag) (x : V) (H1 : Hp) (Q : VK) : Prop := ∃ a xs, x = .ref a ∧ SqL K H1 a xs ∧ ∀ p, H1 p = none → Q (.ref p) (upd H1 p (.lst xs.reverse))
section
variable {K : PySem.W.Frag} {σ : L2.St} {H H0 : Hp} {S : List Addr} {L : List (Addr × Ent)} {I : List (V × PyData)} {Q : VK} {D : Ends} {v x y : V} {i j : Int} {A : TA} {te : TE} {W Wout : WX} {c cls : Value} {d : Option Addr} {tb : WX → TS} {ts : TCl} {m : Nat} {C : Addr}
theorem a_callS {sp : Sp} {E : L2.St → XK} : tCallS sp E A σ H Q = A σ H fun vs H1 => sp vs H1 Q (E σ) := rfl
theorem a_raise0 : mRaise0 C W D σ H = W (.ref C) none σ H := rfl
theorem a_tryAs : mTryAs K c m tb ts Wout D σ H = tb (wAs K c m ts Wout D) D σ H := rfl
theorem a_tryOnly : mTryOnly K c tb ts Wout D σ H = tb (wOnly K c ts Wout D) D σ H := rfl
theorem a_rev : tRevL K te σ H Q = te σ H fun x H1 => revK K x H1 Q := rfl
theorem h_wAsT (hm : PySem.W.exmOne K cls c = some true) (k : ∀ a, H a = none → ts a cls d { nx := fun σ' H' => D.nx (σ'.set m none) H', rt := D.rt, bk := fun σ' H' => D.bk (σ'.set m none) H', ct := fun σ' H' => D.ct (σ'.set m none) H' } (σ.set m (some (.ref a))) H) : wAs K c m ts Wout D cls d σ H :=
  ⟨true, hm, fun _ => k, fun z => nomatch z⟩
theorem h_wOnlyT (hm : PySem.W.exmOne K cls c = some true) (k : ∀ a, H a = none → ts a cls d D σ H) : wOnly K c ts Wout D cls d σ H := ⟨true, hm, fun _ => k, fun z => nomatch z⟩
theorem h_wAsF (hm : PySem.W.exmOne K cls c = some false) (k : Wout cls d σ H) : wAs K c m ts Wout D cls d σ H := ⟨false, hm, fun z => absurd z Bool.false_ne_true, fun _ => k⟩
theorem h_wOnlyF (hm : PySem.W.exmOne K cls c = some false) (k : Wout cls d σ H) : wOnly K c ts Wout D cls d σ H := ⟨false, hm, fun z => absurd z Bool.false_ne_true, fun _ => k⟩
theorem h_isXr {a C D : Addr} {b : Bool} (hD : ExcC K D) (hk : PySem.W.kitOne K (.ref D) (.ref C) = some b) (k : Q (.bl b) H) : rIsX K (.ref D) none a [.ref a, .ref C] H Q :=
  ⟨_, _, D, b, rfl, rfl, hD, rfl, fun _ r => r, hk, k⟩
theorem h_isXt {a D : Addr} {T : String} {b : Bool} (hD : ExcC K D) (hk : PySem.W.kitOne K (.ref D) (.type T) = some b) (k : Q (.bl b) H) : rIsX K (.ref D) none a [.ref a, .ty T] H Q :=
  ⟨_, _, D, b, rfl, rfl, hD, rfl, fun _ r => r, hk, k⟩
/-! ### lists of whole numbers -/
def cutI {α : Type} (xs : List α) (lo hi : Option Int) : List α := (xs.drop (HT.sIx xs.length 0 lo)).take (HT.sIx xs.length xs.length hi - HT.sIx xs.length 0 lo)
theorem cutI_map {α β : Type} (f : α → β) (xs : List α) (lo hi : Option Int) : cutI (xs.map f) lo hi = (cutI xs lo hi).map f := by
  unfold cutI
  rw [List.length_map, List.map_take, List.map_drop]
theorem sIx_nn {n d : Nat} {i : Int} (h : 0 ≤ i) : HT.sIx n d (some i) = min i.toNat n := by
  show (if i < 0 then (i + (n : Int)).toNat else min i.toNat n) = _
  rw [if_neg (by omega)]
theorem cutI_two {α : Type} (xs : List α) {i j : Int} (hi : 0 ≤ i) (hj : 0 ≤ j) : cutI xs (some i) (some j) = (xs.take j.toNat).drop i.toNat := by
  unfold cutI
  rw [sIx_nn hi, sIx_nn hj, List.drop_take]
  by_cases h : i.toNat ≤ xs.length
  · rw [Nat.min_eq_left h]
    by_cases h2 : j.toNat ≤ xs.length
    · rw [Nat.min_eq_left h2]
    · rw [Nat.min_eq_right (by omega), List.take_of_length_le (by rw [List.length_drop]; exact Nat.le_refl _), List.take_of_length_le (by rw [List.length_drop]; omega)]
  · rw [Nat.min_eq_right (show xs.length ≤ i.toNat by omega), List.drop_eq_nil_of_le (Nat.le_refl xs.length), List.drop_eq_nil_of_le (show xs.length ≤ i.toNat by omega), List.take_nil, List.take_nil]
theorem cutI_pre {α : Type} (xs : List α) {j : Int} (hj : 0 ≤ j) : cutI xs none (some j) = xs.take j.toNat := by
  unfold cutI
  rw [sIx_nn hj, HT.sIx_none, List.drop_zero, Nat.sub_zero]
  by_cases h2 : j.toNat ≤ xs.length
  · rw [Nat.min_eq_left h2]
  · rw [Nat.min_eq_right (by omega), List.take_of_length_le (Nat.le_refl _), List.take_of_length_le (by omega)]
theorem cutI_suf {α : Type} (xs : List α) {i : Int} (hi : 0 ≤ i) : cutI xs (some i) none = xs.drop i.toNat := by
  unfold cutI
  rw [sIx_nn hi, HT.sIx_none]
  by_cases h : i.toNat ≤ xs.length
  · rw [Nat.min_eq_left h]
    exact List.take_of_length_le (by rw [List.length_drop]; exact Nat.le_refl _)
  · rw [Nat.min_eq_right (by omega), List.drop_eq_nil_of_le (Nat.le_refl _), List.drop_eq_nil_of_le (by omega), List.take_nil]
theorem h_slG (n : Nat) (h : Led K H0 S H L I) {a : Addr} {xs : List V} {lo hi : Option Int} (e : L[n]? = some (a, .raw (.lst xs))) (k : ∀ p H', (H0 p = none ∨ p ∈ S) → Led K H0 S H' ((p, .raw (.lst (cutI xs lo hi))) :: L) I → Q (.ref p) H') : uSl K (.ref a) lo hi H Q :=
  .inl ⟨a, xs, rfl, h.sqL n e, fun p hp => k p _ (h.fr hp) (h.alloc hp)⟩
theorem h_sl2 (n : Nat) (h : Led K H0 S H L I) {a : Addr} {ns : List Int} (e : L[n]? = some (a, .raw (.lst (ns.map V.int)))) (hi : 0 ≤ i) (hj : 0 ≤ j) (k : ∀ p H', (H0 p = none ∨ p ∈ S) → Led K H0 S H' ((p, .raw (.lst (((ns.take j.toNat).drop i.toNat).map V.int))) :: L) I → Q (.ref p) H') : uSl K (.ref a) (some i) (some j) H Q :=
  h_slG n h e (by rw [cutI_map, cutI_two ns hi hj]; exact k)
theorem h_slp (n : Nat) (h : Led K H0 S H L I) {a : Addr} {ns : List Int} (e : L[n]? = some (a, .raw (.lst (ns.map V.int)))) (hj : 0 ≤ j) (k : ∀ p H', (H0 p = none ∨ p ∈ S) → Led K H0 S H' ((p, .raw (.lst ((ns.take j.toNat).map V.int))) :: L) I → Q (.ref p) H') : uSl K (.ref a) none (some j) H Q :=
  h_slG n h e (by rw [cutI_map, cutI_pre ns hj]; exact k)
theorem h_sls (n : Nat) (h : Led K H0 S H L I) {a : Addr} {ns : List Int} (e : L[n]? = some (a, .raw (.lst (ns.map V.int)))) (hi : 0 ≤ i) (k : ∀ p H', (H0 p = none ∨ p ∈ S) → Led K H0 S H' ((p, .raw (.lst ((ns.drop i.toNat).map V.int))) :: L) I → Q (.ref p) H') : uSl K (.ref a) (some i) none H Q :=
  h_slG n h e (by rw [cutI_map, cutI_suf ns hi]; exact k)
theorem h_rev (n : Nat) (h : Led K H0 S H L I) {a : Addr} {ns : List Int} (e : L[n]? = some (a, .raw (.lst (ns.map V.int)))) (k : ∀ p H', (H0 p = none ∨ p ∈ S) → Led K H0 S H' ((p, .raw (.lst (ns.reverse.map V.int))) :: L) I → Q (.ref p) H') : revK K (.ref a) H Q :=
  ⟨a, _, rfl, h.sqL n e, fun p hp => by rw [← List.map_reverse]; exact k p _ (h.fr hp) (h.alloc hp)⟩
theorem h_reverse (n : Nat) (h : Led K H0 S H L I) {a : Addr} {ns : List Int} (e : L[n]? = some (a, .raw (.lst (ns.map V.int)))) (hs : H0 a = none ∨ a ∈ S) (k : ∀ H', Led K H0 S H' (L.set n (a, .raw (.lst (ns.reverse.map V.int)))) I → Q .non H') : rReverse (.ref a) [] H Q :=
  ⟨a, _, rfl, rfl, h.raw n e, by
    rw [← List.map_reverse]
    exact k _ (h.wr n e (fun b o q hb => by rw [upd_ne (by simpa using hb)]; exact q) (h.raw n e) rfl upd_same hs)⟩
/-- a + b of two lists, the one at n, the other at m -/
theorem h_catG (n m : Nat) (h : Led K H0 S H L I) {a b : Addr} {xs ys : List V} (e : L[n]? = some (a, .raw (.lst xs))) (e2 : L[m]? = some (b, .raw (.lst ys))) (z : xs.length + ys.length ≤ sizeLine) (k : ∀ p H', (H0 p = none ∨ p ∈ S) → Led K H0 S H' ((p, .raw (.lst (xs ++ ys))) :: L) I → Q (.ref p) H') : hAdd K (.ref a) (.ref b) H Q :=
  .inl ⟨a, b, xs, ys, rfl, rfl, h.raw n e, h.raw m e2, z, fun p hp => k p _ (h.fr hp) (h.alloc hp)⟩
theorem h_cat (n m : Nat) (h : Led K H0 S H L I) {a b : Addr} {xs ys : List Int} (e : L[n]? = some (a, .raw (.lst (xs.map V.int)))) (e2 : L[m]? = some (b, .raw (.lst (ys.map V.int)))) (z : xs.length + ys.length ≤ sizeLine) (k : ∀ p H', (H0 p = none ∨ p ∈ S) → Led K H0 S H' ((p, .raw (.lst ((xs ++ ys).map V.int))) :: L) I → Q (.ref p) H') : hAdd K (.ref a) (.ref b) H Q :=
  h_catG n m h e e2 (by rw [List.length_map, List.length_map]; exact z) (by rw [← List.map_append]; exact k)
/-- [z] * j -/
theorem h_rep (n : Nat) (h : Led K H0 S H L I) {a : Addr} {z : Int} (e : L[n]? = some (a, .raw (.lst [.int z]))) (h0 : 0 ≤ j) (h1 : j ≤ 16000000) (k : ∀ p H', (H0 p = none ∨ p ∈ S) → Led K H0 S H' ((p, .raw (.lst ((List.replicate j.toNat z).map V.int))) :: L) I → Q (.ref p) H') : rRep (.ref a) (.int j) H Q :=
  ⟨a, j, _, rfl, rfl, h.raw n e, by omega, by omega, by rw [sizeLine_eq]; simp only [List.length_cons, List.length_nil]; omega, fun p hp => by
    have q : (List.replicate j.toNat [V.int z]).flatten = (List.replicate j.toNat z).map V.int := by
      induction j.toNat with
      | zero => rfl
      | succ n ih => rw [List.replicate_succ, List.flatten_cons, ih, List.replicate_succ]; rfl
    rw [q]
    exact k p _ (h.fr hp) (h.alloc hp)⟩
theorem h_ixI (n : Nat) (h : Led K H0 S H L I) {a : Addr} {ns : List Int} (e : L[n]? = some (a, .raw (.lst (ns.map V.int)))) (h0 : 0 ≤ i) (h1 : i < ns.length) (k : Q (.int (ns.getD i.toNat 0)) H) : rIx K (.ref a) (.int i) H Q := h_ixL n h e (at_ints h0 h1) k
theorem h_setI {Q : Hp → Prop} (n : Nat) (h : Led K H0 S H L I) {a : Addr} {ns : List Int} (e : L[n]? = some (a, .raw (.lst (ns.map V.int)))) (hs : H0 a = none ∨ a ∈ S) (h0 : 0 ≤ i) (h1 : i < ns.length) (k : ∀ H', Led K H0 S H' (L.set n (a, .raw (.lst ((ns.set i.toNat j).map V.int)))) I → Q H') : rSetL (.ref a) (.int i) (.int j) H Q :=
  h_setL n h e hs (ixN_nn h0 (by rw [List.length_map]; exact h1)) (by rw [← List.map_set]; exact k)
theorem h_appI (n : Nat) (h : Led K H0 S H L I) {a : Addr} {ns : List Int} (e : L[n]? = some (a, .raw (.lst (ns.map V.int)))) (hs : H0 a = none ∨ a ∈ S) (z : ns.length < sizeLine) (k : ∀ H', Led K H0 S H' (L.set n (a, .raw (.lst ((ns ++ [i]).map V.int)))) I → Q .non H') : rAppend (.ref a) [.int i] H Q :=
  h_append n h e hs (by rw [List.length_map]; exact z) (by rw [map_snoc]; exact k)
theorem h_copyI (n : Nat) (h : Led K H0 S H L I) {a : Addr} {ns : List Int} (e : L[n]? = some (a, .raw (.lst (ns.map V.int)))) (k : ∀ p H', (H0 p = none ∨ p ∈ S) → Led K H0 S H' ((p, .raw (.lst (ns.map V.int))) :: L) I → Q (.ref p) H') : hListOf K [.ref a] H Q := h_listOf n h e k
theorem eqvAll_ints : ∀ xs ys : List Int, PyData.eqvAll (xs.map PyData.int) (ys.map PyData.int) = decide (xs = ys)
  | [], [] => by simp [PyData.eqvAll]
  | [], _ :: _ => by simp [PyData.eqvAll]
  | _ :: _, [] => by simp [PyData.eqvAll]
  | x :: xs, y :: ys => by
    simp only [List.map_cons, PyData.eqvAll, PyData.eqv, eqvAll_ints xs ys]
    by_cases h1 : x = y
    · subst h1
      simp
    · simp [h1]
theorem eqv_lints (xs ys : List Int) : PyData.eqv (.list (xs.map PyData.int)) (.list (ys.map PyData.int)) = decide (xs = ys) := by
  simp only [PyData.eqv, eqvAll_ints]
theorem Led.dpI (h : Led K H0 S H L I) (n : Nat) {a : Addr} {ns : List Int} (e : L[n]? = some (a, .raw (.lst (ns.map V.int)))) : Dp K H (.ref a) (.list (ns.map PyData.int)) := .lst (h.sqL n e) (Ims.of_ints ns).dp
theorem lay_ints (ns : List Int) : lay 1 (.list (ns.map PyData.int)) := lay_list fun d hd => by
  obtain ⟨z, _, rfl⟩ := List.mem_map.mp hd
  exact lay_int z
theorem h_neLI (n m : Nat) (h : Led K H0 S H L I) {a b : Addr} {xs ys : List Int} (e : L[n]? = some (a, .raw (.lst (xs.map V.int)))) (e2 : L[m]? = some (b, .raw (.lst (ys.map V.int)))) (k : Q (.bl (!decide (xs = ys))) H) : hNe K (.ref a) (.ref b) H Q :=
  h_neD (h.dpI n e) (h.dpI m e2) (lay_ints xs).shaped (lay_ints ys).shaped (by rw [eqv_lints]; exact k)
theorem h_eqLI (n m : Nat) (h : Led K H0 S H L I) {a b : Addr} {xs ys : List Int} (e : L[n]? = some (a, .raw (.lst (xs.map V.int)))) (e2 : L[m]? = some (b, .raw (.lst (ys.map V.int)))) (k : Q (.bl (decide (xs = ys))) H) : hEq K (.ref a) (.ref b) H Q :=
  h_eqD (h.dpI n e) (h.dpI m e2) (lay_ints xs).shaped (lay_ints ys).shaped (by rw [eqv_lints]; exact k)
/-- h_neLI with the same list: it is equal -/
theorem h_neSame (n m : Nat) (h : Led K H0 S H L I) {a b : Addr} {xs ys : List Int} (e : L[n]? = some (a, .raw (.lst (xs.map V.int)))) (e2 : L[m]? = some (b, .raw (.lst (ys.map V.int)))) (q : xs = ys) (k : Q (.bl false) H) : hNe K (.ref a) (.ref b) H Q :=
  h_neLI n m h e e2 (by rw [decide_eq_true q]; exact k)
/-! ### range with a step -/
def rg3 (xs : List V) (P : Int → Int → Nat → Prop) : Prop := ∃ (i j c : Int) (n : Nat), xs = [.int i, .int j, .int c] ∧ RgC i j c n ∧ P i c n
def jR3 (ta : TA) : TI := fun σ H R => ta σ H fun vs H1 => rg3 vs fun i c n => R (Itc i c n) H1
theorem i_rng3 {X : Cx} {tg : Expr} {ta : TA} {iter : Expr} (h : PI X tg iter (iRng3 ta)) : PI X tg iter (jR3 ta) := h
theorem a_jR3 {R : It → Hp → Prop} : jR3 A σ H R = A σ H fun vs H1 => rg3 vs fun i c n => R (Itc i c n) H1 := rfl
theorem h_rg3 {c : Int} {n : Nat} {P : Int → Int → Nat → Prop} (h : RgC i j c n) (k : P i c n) : rg3 [.int i, .int j, .int c] P := ⟨i, j, c, n, rfl, h, k⟩
theorem rgC_up {c : Int} {m : Nat} (hc : 0 < c) (hc2 : c < 1000000) (hm : m ≤ 1000000) (hj : j = c * m) : RgC 0 j c m := by
  subst hj
  have h0 : 0 ≤ c * (m : Int) := Int.mul_nonneg (by omega) (by omega)
  have h1 : c * (m : Int) ≤ 1000000 * 1000000 := Int.mul_le_mul (by omega) (by omega) (by omega) (by omega)
  have hs : Builtin.Range.rangeSize 0 (c * m) c = m := by
    unfold Builtin.Range.rangeSize
    rw [if_pos (by omega)]
    by_cases hm0 : m = 0
    · subst hm0
      simp
    · have hp : 0 < c * (m : Int) := Int.mul_pos hc (by omega)
      rw [if_pos hp]
      have e : (c * (m : Int) - 0 - 1) = (c - 1) + c * (m - 1) := by rw [Int.mul_sub]; omega
      rw [e, Int.add_mul_ediv_left _ _ (by omega), Int.ediv_eq_zero_of_lt (by omega) (by omega)]
      omega
  refine ⟨by omega, by omega, ?_, hs⟩
  unfold Builtin.Range.small
  rw [hs]
  simp only [Builtin.Range.rangeFitsLong, Bool.and_eq_true, Bool.or_eq_true, decide_eq_true_eq, beq_iff_eq]
  refine ⟨by omega, .inr ?_⟩
  rw [if_pos (show c > 0 by omega), decide_eq_true (by omega), decide_eq_true (by omega)]
  rfl
theorem lpC {lo c : Int} {n : Nat} {g : TG} {tb : TS} (Pv : Nat → L2.St → Hp → Prop) (h0 : Pv 0 σ H)
    (hs : ∀ i σ H, i < n → Pv i σ H → g (.int (lo + (i : Nat) * c)) σ H fun σ2 H2 => tb { D with nx := Pv (i + 1), ct := Pv (i + 1), bk := D.nx } σ2 H2) (hd : ∀ σ H, Pv n σ H → D.nx σ H) : Lp (Itc lo c n) g tb D σ H := for_rangeC Pv h0 hs hd
/-! ### a tuple of scalars, unpacked -/
def vOfs : List PyData → Option (List V)
  | [] => some []
  | d :: r => match Rs.vOf d, vOfs r with
    | some v, some vs => some (v :: vs)
    | _, _ => none
theorem Ims.vOfs : ∀ {vs us : List V} {ds : List PyData}, Ims K H vs ds → Rs.vOfs ds = some us → vs = us
  | _, us, _, .nil, e => by
    cases e
    rfl
  | v :: vs, us, d :: ds, .cons h t, e => by
    unfold Rs.vOfs at e
    split at e
    · rename_i v' vs' e1 e2
      cases e
      rw [h.vOf _ e1, Ims.vOfs t e2]
    · cases e
theorem h_gtupV {n : Nat} {a : Addr} {ds : List PyData} {us : List V} {gs : TGs} {Q : L2.St → Hp → Prop} (h : Im K H (.ref a) (.tuple ds)) (hn : ds.length = n) (hv : Rs.vOfs ds = some us) (k : gs us σ H Q) : gTup K n gs (.ref a) σ H Q :=
  h_gtup h hn fun xs hx => by rw [hx.vOfs hv]; exact k
/-! ### fewer entries -/
def pickL (f : List Nat) (L : List (Addr × Ent)) : List (Addr × Ent) := f.map fun n => L[n]?.getD (0, .dl [])
theorem Led.pick (h : Led K H0 S H L I) (f : List Nat) (hf : f.Nodup := by decide) (hb' : (f.all fun n => decide (n < L.length)) = true := by rfl) : Led K H0 S H (pickL f L) I := by
  have hb : ∀ n ∈ f, n < L.length := fun n hn => of_decide_eq_true (List.all_eq_true.mp hb' n hn)
  refine h.take _ I f (List.range I.length) hf (by unfold pickL; rw [List.length_map]) (fun i n e => ?_) (by rw [List.length_range]) (fun i n e => ?_)
  · have hn := hb n (List.mem_of_getElem? e)
    unfold pickL
    rw [List.getElem?_map, e]
    show some (L[n]?.getD (0, .dl [])) = L[n]?
    rw [List.getElem?_eq_getElem hn]
    rfl
  · obtain ⟨h1, h2⟩ := List.getElem?_eq_some_iff.mp e
    rw [List.getElem_range] at h2
    rw [h2]
theorem h_brNT {t u : TS} (h1 : u D σ H) : Br (!true) t u D σ H := iteF h1
theorem h_brNF {t u : TS} (h1 : t D σ H) : Br (!false) t u D σ H := iteT h1
/-! ### repr of data -/
def shw (n W : Nat) (d : PyData) : Prop := d.showable = true ∧ d.hasDict = false ∧ d.depth ≤ n ∧ d.leavesShort 13 = true ∧ d.weight ≤ W
theorem shw_int {z : Int} (h : z.natAbs < 10 ^ 12) : shw 0 41 (.int z) := by
  have hl : z = 0 ∨ z.natAbs.log2 < 40 := by
    by_cases h0 : z = 0
    · exact .inl h0
    · exact .inr ((Nat.log2_lt (by omega)).mpr (Nat.lt_trans h (by decide)))
  refine ⟨?_, by simp [PyData.hasDict], by simp [PyData.depth], ?_, ?_⟩
  · unfold PyData.showable
    refine decide_eq_true ?_
    rcases hl with rfl | hl
    · decide
    · omega
  · simp only [PyData.leavesShort, decide_eq_true_eq]
    exact PyData.shown_int_le h
  · unfold PyData.weight
    rcases hl with rfl | hl
    · simp
    · split <;> omega
theorem shw_bool (b : Bool) : shw 0 41 (.bool b) := ⟨by simp [PyData.showable], by simp [PyData.hasDict], by simp [PyData.depth], by simp [PyData.leavesShort], by simp [PyData.weight]⟩
theorem shw_none : shw 0 41 .none := ⟨by simp [PyData.showable], by simp [PyData.hasDict], by simp [PyData.depth], by simp [PyData.leavesShort], by simp [PyData.weight]⟩
theorem shw.up {n n' W W' : Nat} {d : PyData} (h : shw n W d) (h1 : n ≤ n') (h2 : W ≤ W') : shw n' W' d := ⟨h.1, h.2.1, Nat.le_trans h.2.2.1 h1, h.2.2.2.1, Nat.le_trans h.2.2.2.2 h2⟩
theorem shw_all {n W : Nat} : ∀ {ds : List PyData}, (∀ d ∈ ds, shw n W d) → PyData.showableAll ds = true ∧ PyData.hasDictAll ds = false ∧ PyData.depthAll ds ≤ n ∧ PyData.leavesShortAll 13 ds = true ∧ PyData.weightAll ds ≤ ds.length * (W + 1)
  | [], _ => ⟨by simp [PyData.showableAll], by simp [PyData.hasDictAll], by simp [PyData.depthAll], by simp [PyData.leavesShortAll], by simp [PyData.weightAll]⟩
  | d :: ds, h => by
    obtain ⟨h1, h2, h3, h4, h5⟩ := h d List.mem_cons_self
    obtain ⟨g1, g2, g3, g4, g5⟩ := shw_all (ds := ds) fun x hx => h x (List.mem_cons_of_mem _ hx)
    refine ⟨by simp [PyData.showableAll, h1, g1], by simp [PyData.hasDictAll, h2, g2], ?_, by simp [PyData.leavesShortAll, h4, g4], ?_⟩
    · simp only [PyData.depthAll]
      omega
    · simp only [PyData.weightAll, List.length_cons]
      rw [Nat.succ_mul]
      omega
theorem shw_list {n W : Nat} {ds : List PyData} (h : ∀ d ∈ ds, shw n W d) : shw (n + 1) (ds.length * (W + 1)) (.list ds) := by
  obtain ⟨g1, g2, g3, g4, g5⟩ := shw_all h
  exact ⟨by simp [PyData.showable, g1], by simp [PyData.hasDict, g2], by simp only [PyData.depth]; omega, by simp [PyData.leavesShort, g4], by simp only [PyData.weight]; exact g5⟩
theorem shw_tup {n W : Nat} {ds : List PyData} (h : ∀ d ∈ ds, shw n W d) : shw (n + 1) (ds.length * (W + 1)) (.tuple ds) := by
  obtain ⟨g1, g2, g3, g4, g5⟩ := shw_all h
  exact ⟨by simp [PyData.showable, g1], by simp [PyData.hasDict, g2], by simp only [PyData.depth]; omega, by simp [PyData.leavesShort, g4], by simp only [PyData.weight]; exact g5⟩
theorem h_repr {x : V} {d : PyData} {n W : Nat} (hd : Dp K H x d) (h : shw n W d) (k : Q (.str d.shown) H) (hn : n ≤ 60 := by decide) (hW : W ≤ 2 ^ 20 := by decide) : hRepr K [x] H Q :=
  ⟨x, d, rfl, hd, h.1, h.2.1, Nat.le_trans h.2.2.1 hn, PyData.shown_fits (by decide) (by decide) h.2.2.2.1 (Nat.le_trans h.2.2.2.2 hW), k⟩
end

/-! ### objects -/
/-- what a class must say of its fields -/
structure CF (K : PySem.W.Frag) (C : Addr) (ns : List Str) : Prop where
  cl : Cls K C
  na : ∀ f ∈ ns, NoAttr K C f
def fldK (K : PySem.W.Frag) (f : Str) (x : V) (H : Hp) (Q : VK) : Prop := ∃ a C dx fs v, x = .ref a ∧ H a = some (.ins C dx fs) ∧ Cls K C ∧ NoAttr K C f ∧ fs.lookup f = some v ∧ Q v H
def sfldK (K : PySem.W.Frag) (f : Str) (y x : V) (H2 : Hp) (Q : Hp → Prop) : Prop := ∃ a C dx fs, x = .ref a ∧ H2 a = some (.ins C dx fs) ∧ Cls K C ∧ NoAttr K C f ∧ fs.length < 1000 ∧ Q (upd H2 a (.ins C dx (putF f y fs)))
def faugK (K : PySem.W.Frag) (f : Str) (x : V) (H1 : Hp) (P : Addr → Addr → V → Prop) : Prop := ∃ a C dx fs v, x = .ref a ∧ H1 a = some (.ins C dx fs) ∧ Cls K C ∧ NoAttr K C f ∧ fs.lookup f = some v ∧ P a C v
def faug2 (a C : Addr) (f : Str) (z : V) (H3 : Hp) (Q : Hp → Prop) : Prop := ∃ dx' fs', H3 a = some (.ins C dx' fs') ∧ fs'.length < 1000 ∧ Q (upd H3 a (.ins C dx' (putF f z fs')))
def methK (C : Addr) (m : Str) (x : V) (H1 : Hp) (P : Prop) : Prop := ∃ a dx fs, x = .ref a ∧ H1 a = some (.ins C dx fs) ∧ fs.lookup m = none ∧ P
def makeK (C : Addr) (H1 : Hp) (P : V → Hp → Prop) : Prop := ∀ x dx, H1 x = none → H1 dx = none → dx ≠ x → P (.ref x) (upd (upd H1 dx (.own x)) x (.ins C dx []))
/-- a method's call within a try, or a def that raises -/
def tMethE (C : Addr) (m : Str) (sp : Sp) (E : L2.St → XK) (ta : TE) (t : TA) : TE := fun σ H Q => ta σ H fun x H1 => methK C m x H1 (t σ H1 fun vs H2 => sp (x :: vs) H2 Q (E σ))
section
variable {X : Cx}
theorem pe_methE {CX : CXT} {k : Nat} {f C : Addr} {fd : FuncData} {ps : List Str} {sp : Sp} {E : L2.St → XK} {m : Str} {pos apos : Pos} {e o : Expr} {es : List Expr} {ta : TE} {t : TA} {pl : Sem Bool} (he : PE X o ta) (c : Cls X.K C) (hm : Meth X.K C m f)
    (F : FnOk X.prog X.w X.K X.mg X.base CX k f fd ps sp) (hr : Room k X.A) (hb : Binds X.K fd ps []) (hx : ∀ σ, PassesAt CX X σ (E σ)) (ha : PA X (e :: es) t)
    (hst : starEach (e :: es) X.env = (false, eval e X.env) :: starEach es X.env := by rfl) (hpl : (backTo pos (starEach es X.env)).any (·.1) = false := by rfl)
    (ht : eval (.Call (.Attribute o m apos) (e :: es) [] pos) X.env = (do
      let ov ← eval o X.env
      standAt apos.atName
      let (f, first) ← holding [ov] (getMethod ov m pl)
      callWith pos f first (backTo pos (starEach (e :: es) X.env)) (backToKw pos (keywordEach [] X.env))) := by rfl) :
    PE X (.Call (.Attribute o m apos) (e :: es) [] pos) (tMethE C m sp E ta t) := by
  refine ⟨fun pins s σ H Q I h => ?_⟩
  refine PySem.W.methodCall_KW (pl := pl) (thn (he.run pins s σ H _ I h) fun u s1 ⟨x, H1, I1, rx, a, dx, fs, ex, ea, l, q⟩ => ?_) ht
  subst ex
  obtain rfl : u = Value.ref a := rx
  refine getmeth_ok I1 ea c hm l ?_
  refine PySem.W.callWith_K (first := [.ref a]) (h₀ := X.base) I.ok.mod.kin hm.kp (thn (ha.run pos pins s1 σ H1 _ I1 q) fun us s2 ⟨vs, H2, I2, r, q2⟩ => ⟨I2.kIn, ?_⟩) hst hpl
  exact run_fnS (us := .ref a :: us) (vs := .ref a :: vs) F hr hb (hx σ) I2 (.cons rfl r) q2
theorem pe_methE0 {CX : CXT} {k : Nat} {f C : Addr} {fd : FuncData} {ps : List Str} {sp : Sp} {E : L2.St → XK} {m : Str} {pos apos : Pos} {o : Expr} {ta : TE} {pl : Sem Bool} (he : PE X o ta) (c : Cls X.K C) (hm : Meth X.K C m f)
    (F : FnOk X.prog X.w X.K X.mg X.base CX k f fd ps sp) (hr : Room k X.A) (hb : Binds X.K fd ps []) (hx : ∀ σ, PassesAt CX X σ (E σ))
    (ht : eval (.Call (.Attribute o m apos) [] [] pos) X.env = (do
      let ov ← eval o X.env
      standAt apos.atName
      let (f, first) ← holding [ov] (getMethod ov m pl)
      callWith pos f first (backTo pos (starEach [] X.env)) (backToKw pos (keywordEach [] X.env))) := by rfl) :
    PE X (.Call (.Attribute o m apos) [] [] pos) (tMethE C m sp E ta tNil) := by
  refine ⟨fun pins s σ H Q I h => ?_⟩
  refine PySem.W.methodCall_KW (pl := pl) (thn (he.run pins s σ H _ I h) fun u s1 ⟨x, H1, I1, rx, a, dx, fs, ex, ea, l, q⟩ => ?_) ht
  subst ex
  obtain rfl : u = Value.ref a := rx
  refine getmeth_ok I1 ea c hm l ?_
  exact PySem.W.callWith_K0 (first := [.ref a]) I1.kIn hm.kp (run_fnS (us := [.ref a]) (vs := [.ref a]) F hr hb (hx σ) I1 (.cons rfl .nil) q)
theorem pe_callE0 {CX : CXT} {k : Nat} {f : Addr} {fd : FuncData} {ps : List Str} {sp : Sp} {E : L2.St → XK} {x : Str} {p pos : Pos} (F : FnOk X.prog X.w X.K X.mg X.base CX k f fd ps sp) (hr : Room k X.A) (hg : Gl X x) (hm : X.mg x = some (.ref f)) (hk : PySem.W.keepIn X.K (.ref f) = true) (hb : Binds X.K fd ps [])
    (hx : ∀ σ, PassesAt CX X σ (E σ)) (hdb : (x == ("__debug__" : Str)) = false := by decide) : PE X (.Call (.Name x p) [] [] pos) (tCallS sp E tNil) := by
  refine ⟨fun pins s σ H Q I h => ?_⟩
  refine wpAny_Call_Name_kw (ld_glob I hg hm ?_ hdb)
  exact PySem.W.callWith_K0 I.kIn hk (run_fnS (us := []) F hr hb (hx σ) I .nil h)
theorem in_addM : InOp X .Add mIAdd := fun pins s σ H x y v u Q I rx ry h => by
  cases x <;> cases y <;>
    first
      | exact h.elim
      | exact iop_add pins s σ H _ _ v u Q I rx ry ⟨_, _, rfl, rfl, h⟩
      | exact iop_add_str pins s σ H _ _ v u Q I rx ry ⟨_, _, rfl, rfl, h.1, h.2⟩
theorem in_subM : InOp X .Sub mSub := fun pins s σ H x y v u Q I rx ry h => iop_sub pins s σ H x y v u Q I rx ry (mI0_ok h)
end
section
variable {K : PySem.W.Frag} {σ : L2.St} {H H' H0 : Hp} {S : List Addr} {L : List (Addr × Ent)} {I : List (V × PyData)} {Q : VK} {D : Ends} {v x y z : V} {A : TA} {ta tv te : TE} {f m : Str} {C : Addr} {sp : Sp} {dvs : List V} {E : XK} {ES : L2.St → XK} {r : R2} {ns : List Str} {fs : List (Str × V)} {a dx : Addr}
theorem a_fld : tFld K ta f σ H Q = ta σ H fun x H1 => fldK K f x H1 Q := rfl
theorem a_sfld : sFld K ta tv f D σ H = tv σ H fun y H1 => ta σ H1 fun x H2 => sfldK K f y x H2 (D.nx σ) := rfl
theorem a_sfldaug : sFldAug K ta tv r f D σ H = ta σ H fun x H1 => faugK K f x H1 fun a C v => tv σ H1 fun y H2 => r v y H2 fun z H3 => faug2 a C f z H3 (D.nx σ) := rfl
theorem a_meth : tMeth C m sp dvs E ta A σ H Q = ta σ H fun x H1 => methK C m x H1 (A σ H1 fun vs H2 => sp (x :: (vs ++ dvs)) H2 Q E) := rfl
theorem a_methE : tMethE C m sp ES ta A σ H Q = ta σ H fun x H1 => methK C m x H1 (A σ H1 fun vs H2 => sp (x :: vs) H2 Q (ES σ)) := rfl
theorem a_make : tMake C sp dvs E A σ H Q = A σ H fun vs H1 => makeK C H1 fun x H2 => sp (x :: (vs ++ dvs)) H2 (fun v H3 => v = .non ∧ Q x H3) E := rfl
theorem h_fld (n : Nat) (h : Led K H0 S H L I) (e : L[n]? = some (a, .raw (.ins C dx fs))) (c : CF K C ns) (hf : f ∈ ns) (hl : fs.lookup f = some v) (k : Q v H) : fldK K f (.ref a) H Q := ⟨a, C, dx, fs, v, rfl, h.raw n e, c.cl, c.na f hf, hl, k⟩
theorem Led.setF (h : Led K H0 S H L I) (n : Nat) (e : L[n]? = some (a, .raw (.ins C dx fs))) (hs : H0 a = none ∨ a ∈ S) (fs' : List (Str × V)) : Led K H0 S (upd H a (.ins C dx fs')) (L.set n (a, .raw (.ins C dx fs'))) I :=
  h.wr n e (fun b o q hb => by rw [upd_ne (by simpa using hb)]; exact q) (h.raw n e) rfl upd_same hs
theorem h_sfld {Q : Hp → Prop} {fs' : List (Str × V)} (n : Nat) (h : Led K H0 S H L I) (e : L[n]? = some (a, .raw (.ins C dx fs))) (c : CF K C ns) (hf : f ∈ ns) (hs : H0 a = none ∨ a ∈ S) (hl : fs.length < 1000) (hp : putF f y fs = fs') (k : ∀ H', Led K H0 S H' (L.set n (a, .raw (.ins C dx fs'))) I → Q H') : sfldK K f y (.ref a) H Q :=
  ⟨a, C, dx, fs, rfl, h.raw n e, c.cl, c.na f hf, hl, by rw [hp]; exact k _ (h.setF n e hs fs')⟩
theorem h_faug {P : Addr → Addr → V → Prop} (n : Nat) (h : Led K H0 S H L I) (e : L[n]? = some (a, .raw (.ins C dx fs))) (c : CF K C ns) (hf : f ∈ ns) (hl : fs.lookup f = some v) (k : P a C v) : faugK K f (.ref a) H P := ⟨a, C, dx, fs, v, rfl, h.raw n e, c.cl, c.na f hf, hl, k⟩
theorem h_faug2 {Q : Hp → Prop} {fs' : List (Str × V)} (n : Nat) (h : Led K H0 S H L I) (e : L[n]? = some (a, .raw (.ins C dx fs))) (hs : H0 a = none ∨ a ∈ S) (hl : fs.length < 1000) (hp : putF f z fs = fs') (k : ∀ H', Led K H0 S H' (L.set n (a, .raw (.ins C dx fs'))) I → Q H') : faug2 a C f z H Q :=
  ⟨dx, fs, h.raw n e, hl, by rw [hp]; exact k _ (h.setF n e hs fs')⟩
theorem h_meth {P : Prop} (n : Nat) (h : Led K H0 S H L I) (e : L[n]? = some (a, .raw (.ins C dx fs))) (hl : fs.lookup m = none) (k : P) : methK C m (.ref a) H P := ⟨a, dx, fs, rfl, h.raw n e, hl, k⟩
theorem h_make {P : V → Hp → Prop} (h : Led K H0 S H L I) (k : ∀ x dx H', (H0 x = none ∨ x ∈ S) → Led K H0 S H' ((x, .raw (.ins C dx [])) :: L) I → P (.ref x) H') : makeK C H P := fun x dx h1 h2 h3 => by
  have g1 := h.alloc (o := .own x) h2
  have hx : upd H dx (.own x) x = none := by rw [upd_ne (Ne.symm h3)]; exact h1
  have g2 := g1.alloc (o := .ins C dx []) hx
  exact k x dx _ (h.fr h1) (g2.take _ I (0 :: (List.range L.length).map (· + 2)) (List.range I.length) (by
    refine List.nodup_cons.mpr ⟨fun m => ?_, ?_⟩
    · obtain ⟨i, _, hi⟩ := List.mem_map.mp m
      omega
    · exact (List.pairwise_map.mpr ((List.nodup_range (n := L.length)).imp fun h e => h (by omega)))) (by simp) (fun i n e => by
      cases i with
      | zero =>
        cases e
        rfl
      | succ i =>
        have e' : ((List.range L.length).map (· + 2))[i]? = some n := e
        rw [List.getElem?_map] at e'
        obtain ⟨j, hj, rfl⟩ := Option.map_eq_some_iff.mp e'
        obtain ⟨h4, h5⟩ := List.getElem?_eq_some_iff.mp hj
        rw [List.getElem_range] at h5
        subst h5
        rfl) (by simp) (fun i n e => by
      obtain ⟨h4, h5⟩ := List.getElem?_eq_some_iff.mp e
      rw [List.getElem_range] at h5
      rw [h5]))
/-! ### a callee's ledger -/
def entMut : Ent → Bool
  | .raw o => isMut o
  | .dl _ => true
def adr (L : List (Addr × Ent)) (g : List Nat) : List Addr := g.map fun n => (L[n]?.getD (0, .dl [])).1
theorem EntAt.noT {e : Ent} (h : EntAt K H a e) (m : entMut e = true) : NoT H [a] := by
  cases e with
  | raw o => exact NoT.one h m
  | dl ds =>
    obtain ⟨xs, h1, _⟩ := h
    exact NoT.one h1 rfl
/-- the callee's ledger at its entry: some of the entries -/
theorem Led.rebase (h : Led K H0 S H L I) (g : List Nat) (S1 : List Addr) (hg : g.Nodup := by decide) (hb : (g.all fun n => decide (n < L.length)) = true := by rfl) : Led K H S1 H (pickL g L) I := by
  have q := h.pick g hg hb
  exact ⟨q.nd, q.at_, q.im, KBs.refl⟩
/-- back from the callee: g the entries that it may have changed, g2 those that it had (g among them), f those that it left -/
theorem Led.back {L1 : List (Addr × Ent)} {I1 : List (V × PyData)} (h : Led K H0 S H L I) (f g g2 : List Nat) {S1 : List Addr} (c : Led K H S1 H' L1 I1) (hS : ∀ b ∈ S1, b ∈ adr L g) (hd : ∀ e ∈ L1, e.1 ∈ adr L g2 ∨ H e.1 = none) (hs : ∀ b ∈ adr L g, H0 b = none ∨ b ∈ S) (hfg : (f ++ g2).Nodup := by decide) (hgg : (g.all fun n => g2.contains n) = true := by rfl)
    (hb : ((f ++ g2).all fun n => decide (n < L.length)) = true := by rfl) (hm : (g.all fun n => entMut (L[n]?.getD (0, .dl [])).2) = true := by rfl) : Led K H0 S H' (L1 ++ pickL f L) (I1 ++ I) := by
  have inR : ∀ n ∈ f ++ g2, n < L.length := fun n hn => of_decide_eq_true (List.all_eq_true.mp hb n hn)
  have sub : ∀ n ∈ g, n ∈ g2 := fun n hn => List.contains_iff_mem.mp (List.all_eq_true.mp hgg n hn)
  have at' : ∀ n (hn : n < L.length), L[n]?.getD (0, .dl []) = L[n] := fun n hn => by rw [List.getElem?_eq_getElem hn]; rfl
  have noT : NoT H S1 := fun b hb0 => by
    have hb2 := hS b hb0
    obtain ⟨n, hn, e⟩ := List.mem_map.mp hb2
    have hl := inR n (List.mem_append_right _ (sub n hn))
    have q := List.all_eq_true.mp hm n hn
    rw [at' n hl] at e q
    have r := (h.at_ n L[n].1 L[n].2 (List.getElem?_eq_getElem hl)).noT q
    rw [e] at r
    exact r b (List.mem_singleton.mpr rfl)
  have apart : ∀ n ∈ f, (L[n]?.getD (0, .dl [])).1 ∉ adr L g2 := fun n hn m => by
    obtain ⟨j, hj, e⟩ := List.mem_map.mp m
    have h1 := inR n (List.mem_append_left _ hn)
    have h2 := inR j (List.mem_append_right _ hj)
    rw [at' n h1, at' j h2] at e
    refine h.ne j n (a := L[j].1) (b := L[n].1) (e := L[j].2) (u := L[n].2) (List.getElem?_eq_getElem h2) (List.getElem?_eq_getElem h1) (fun q => ?_) e
    subst q
    exact (List.nodup_append.mp hfg).2.2 j hn j hj rfl
  have p := h.pick f (List.nodup_append.mp hfg).1 (List.all_eq_true.mpr fun n hn => decide_eq_true (inR n (List.mem_append_left _ hn)))
  have mem : ∀ e ∈ pickL f L, e.1 ∉ adr L g2 ∧ ∃ o, H e.1 = some o := fun e he => by
    obtain ⟨n, hn, q⟩ := List.mem_map.mp he
    refine ⟨q ▸ apart n hn, ?_⟩
    obtain ⟨i, hi, r⟩ := List.getElem_of_mem he
    exact (p.at_ i e.1 e.2 (by rw [List.getElem?_eq_getElem hi, r])).some
  have sub2 : ∀ b ∈ adr L g, b ∈ adr L g2 := fun b hb0 => by
    obtain ⟨n, hn, e⟩ := List.mem_map.mp hb0
    exact List.mem_map.mpr ⟨n, sub n hn, e⟩
  refine ⟨?_, fun n b e q => ?_, fun n v d q => ?_, fun b o q hb2 => ?_⟩
  · rw [List.map_append]
    refine List.nodup_append.mpr ⟨c.nd, p.nd, fun b hb1 b' hb2 e => ?_⟩
    subst e
    obtain ⟨e1, he1, q1⟩ := List.mem_map.mp hb1
    obtain ⟨e2, he2, q2⟩ := List.mem_map.mp hb2
    obtain ⟨m1, o, m2⟩ := mem e2 he2
    rcases hd e1 he1 with w | w
    · rw [q1] at w
      rw [q2] at m1
      exact m1 w
    · rw [q1, ← q2, m2] at w
      cases w
  · by_cases hn : n < L1.length
    · rw [List.getElem?_append_left hn] at q
      exact c.at_ n b e q
    · rw [List.getElem?_append_right (by omega)] at q
      exact (p.at_ _ b e q).keep c.kp noT fun m => (mem _ (List.mem_of_getElem? q)).1 (sub2 _ (hS _ m))
  · by_cases hn : n < I1.length
    · rw [List.getElem?_append_left hn] at q
      exact c.im n v d q
    · rw [List.getElem?_append_right (by omega)] at q
      exact (h.im _ v d q).keep c.kp noT
  · refine c.kp b o (h.kp b o q hb2) fun m => ?_
    rcases hs b (hS b m) with w | w
    · rw [q] at w
      cases w
    · exact hb2 w
theorem Led.iL {I1 : List (V × PyData)} (h : Led K H0 S H L (I1 ++ I)) : Led K H0 S H L I1 := ⟨h.nd, h.at_, fun n v d e => h.im n v d (by rw [List.getElem?_append_left (List.getElem?_eq_some_iff.mp e).1]; exact e), h.kp⟩
theorem Led.iR {I1 : List (V × PyData)} (h : Led K H0 S H L (I1 ++ I)) : Led K H0 S H L I := ⟨h.nd, h.at_, fun n v d e => h.im (I1.length + n) v d (by rw [List.getElem?_append_right (by omega), Nat.add_sub_cancel_left]; exact e), h.kp⟩
/-- an if whose two ways tell the same -/
theorem h_brEv {b : Bool} {t u : TE} (v : V) (h1 : b = true → ∀ Q' : VK, Q' v H → t σ H Q') (h2 : b = false → ∀ Q' : VK, Q' v H → u σ H Q') (k : Q v H) : BrE b t u Q σ H := h_brEb (fun e => h1 e Q k) fun e => h2 e Q k
/-- .. something of one kind -/
theorem h_brEj {b : Bool} {t u : TE} (P : V → Hp → Prop) (h1 : b = true → ∀ Q' : VK, (∀ v H', P v H' → Q' v H') → t σ H Q') (h2 : b = false → ∀ Q' : VK, (∀ v H', P v H' → Q' v H') → u σ H Q') (k : ∀ v H', P v H' → Q v H') : BrE b t u Q σ H := h_brEb (fun e => h1 e Q k) fun e => h2 e Q k
theorem h_truL (n : Nat) {xs : List V} {QB : Bool → Hp → Prop} (h : Led K H0 S H L I) (e : L[n]? = some (a, .raw (.lst xs))) (k : QB (!xs.isEmpty) H) : truK K QB (.ref a) H := ⟨_, .inl ⟨xs, h.sqL n e, rfl⟩, k⟩
theorem lk_here {k : Str} {v : V} {r : List (Str × V)} : List.lookup k ((k, v) :: r) = some v := by
  have e : (k == k) = true := beq_self_eq_true k
  simp only [List.lookup, e]
theorem lk_past {k g : Str} {v : V} {r : List (Str × V)} (h : (k == g) = false) : List.lookup k ((g, v) :: r) = List.lookup k r := by
  simp only [List.lookup, h]
theorem put_here {f : Str} {v x : V} {r : List (Str × V)} : putF f v ((f, x) :: r) = (f, v) :: r := if_pos rfl
theorem put_past {f g : Str} {v x : V} {r r' : List (Str × V)} (h : ¬ g = f) (q : putF f v r = r') : putF f v ((g, x) :: r) = (g, x) :: r' := by
  rw [← q]
  exact if_neg h
end

/-! ### the promises of the laws' own helpers -/
/-- where the classes stand -/
structure Ad where
  c_RecordError : Addr
  c_BadSchema : Addr
  c_BadField : Addr
  c_OutOfRange : Addr
  c_Full : Addr
  c_Leased : Addr
  c_BadImage : Addr
  c_BadJournal : Addr
  c_BadArgument : Addr
  c_Work : Addr
  c_Device : Addr
  c_Words : Addr
def A0 : Ad := ⟨0, 0, 0, 0, 0, 0, 0, 0, 0, 0, 0, 0⟩
def sp__law_cell (K : PySem.W.Frag) (A : Ad) : Sp := fun vs H Q _ => ∃ (a : Addr) (ns : List Int) (i : Int), vs = [.ref a, .int i] ∧ SqL K H a (ns.map V.int) ∧ 0 ≤ i ∧ ∀ z H', Same H H' → Q (.int z) H'
def sp__law_digits (K : PySem.W.Frag) (A : Ad) : Sp := fun vs H Q _ => ∃ (a : Addr) (ns : List Int) (f l : Int), vs = [.ref a, .int f, .int l] ∧ SqL K H a (ns.map V.int) ∧ 0 ≤ f ∧ f ≤ 1000 ∧ 0 ≤ l ∧ l ≤ 1000 ∧
  ∀ (p : Addr) (H' : Hp) (ds : List Int), Same H H' → H p = none → H' p = some (.lst (ds.map V.int)) → Q (.ref p) H'
def sp__law_draw (K : PySem.W.Frag) (A : Ad) : Sp := fun vs H Q _ => ∃ (b g : Addr) (ds : List Int) (i m : Int), vs = [.ref b, .int m] ∧ H b = some (.lst [.ref g, .int i]) ∧ H g = some (.lst (ds.map V.int)) ∧ b ≠ g ∧ 0 ≤ i ∧ i < 2 ^ 60 ∧ 0 < m ∧
  ∀ z H', 0 ≤ z → z < m → KBs H H' [b] → H' b = some (.lst [.ref g, .int (i + 1)]) → Q (.int z) H'
section
variable {K : PySem.W.Frag} {A : Ad} {H0 H : Hp} {S : List Addr} {L : List (Addr × Ent)} {I : List (V × PyData)} {Q : VK} {E : XK}
/-- a draw: the box stands at the n-th place of the ledger, its digits right behind -/
theorem h_draw (n : Nat) (h : Led K H0 S H L I) {b g : Addr} {ds : List Int} {i m : Int} (e : L[n]? = some (b, .raw (.lst [.ref g, .int i]))) (e2 : L[n + 1]? = some (g, .raw (.lst (ds.map V.int)))) (h0 : 0 ≤ i) (h1 : i < 2 ^ 60) (h2 : 0 < m)
    (hs : H0 b = none ∨ b ∈ S) (k : ∀ z H', 0 ≤ z → z < m → Led K H0 S H' (L.set n (b, .raw (.lst [.ref g, .int (i + 1)]))) I → Q (.int z) H') : sp__law_draw K A [.ref b, .int m] H Q E :=
  ⟨b, g, ds, i, m, rfl, h.raw n e, h.raw (n + 1) e2, h.ne n (n + 1) e e2 (by omega), h0, h1, h2, fun z H' z0 z1 kb he => k z H' z0 z1 (h.wr n e kb (h.raw n e) rfl he hs)⟩
end

local macro_rules | `(tactic| walk_at "im") => `(tactic| (first | apply Im.int | apply Im.str | apply Im.bl | apply Im.non | assumption | (apply h_imm 0; (case h => assumption); (case e => with_unfolding_all rfl)) | (apply h_imm 1; (case h => assumption); (case e => with_unfolding_all rfl)) | (apply h_imm 2; (case h => assumption); (case e => with_unfolding_all rfl)) | (apply h_imm 3; (case h => assumption); (case e => with_unfolding_all rfl)) | (apply h_imm 4; (case h => assumption); (case e => with_unfolding_all rfl)) | (apply h_imm 5; (case h => assumption); (case e => with_unfolding_all rfl))))
local macro_rules | `(tactic| walk_at "ims") => `(tactic| repeat (first | apply Ims.nil | (apply Ims.cons; (focus (first | apply Im.int | apply Im.str | apply Im.bl | apply Im.non | assumption | (apply h_imm 0; (case h => assumption); (case e => with_unfolding_all rfl)) | (apply h_imm 1; (case h => assumption); (case e => with_unfolding_all rfl)) | (apply h_imm 2; (case h => assumption); (case e => with_unfolding_all rfl)) | (apply h_imm 3; (case h => assumption); (case e => with_unfolding_all rfl)) | (apply h_imm 4; (case h => assumption); (case e => with_unfolding_all rfl)) | (apply h_imm 5; (case h => assumption); (case e => with_unfolding_all rfl)))))))
local macro_rules | `(tactic| walk_at "sz") => `(tactic| (rw [sizeLine_eq]; ((try simp only [List.length_append, List.length_cons, List.length_nil, List.length_map, List.length_replicate, List.length_set, List.length_take, List.length_drop]) <;> omega)))
local macro_rules | `(tactic| walk_at "fr") => `(tactic| (first | assumption | (apply Or.inl; assumption) | (apply Or.inr; simp)))
local macro_rules | `(tactic| walk_at "ds") => `(tactic| dsimp only [a_lk0, a_lk1, a_lkS, a_V, a_vl, a_c, a_op, a_un, a_test, a_toB, a_tr, a_trB, a_trI, a_trN, a_and, a_or, a_not, a_andV, a_orV, a_notV, a_ifE, a_nil, a_cons, a_lst, a_tup, a_call, a_CB, a_BM, a_BM0, a_sl, a_part, a_partI, a_noPart, a_seq, a_next, a_brk, a_cont, a_asg, a_name, a_drop, a_ret, a_retN, a_if, a_aug, a_for, a_lc, a_jR1, a_jR2, a_jL, a_jT, a_rg1, a_rg2, a_gsub, a_yes, a_addI, a_addS, a_addR, a_iaddI, a_iaddS, a_sub, a_mulI, a_mulR, a_fdiv, a_mod, a_pow, a_shl, a_shr, a_lt, a_le, a_gt, a_ge, a_neg, a_EqI, a_EqS, a_EqB, a_EqNN, a_EqIN, a_EqNI, a_EqSN, a_EqNS, a_EqRR, a_EqRN, a_EqNR, a_NeI, a_NeS, a_NeB, a_NeNN, a_NeIN, a_NeNI, a_NeSN, a_NeNS, a_NeRR, a_NeRN, a_NeNR, a_isNN, a_isNI, a_isNS, a_isNB, a_isNR, a_notNN, a_notNI, a_notNS, a_notNB, a_notNR, a_intI, a_intB, a_abs, a_gnil, a_gcons, a_callS, a_raise0, a_tryAs, a_tryOnly, a_rev, a_jR3, wipe, List.set, List.nil_append, List.cons_append])
local macro_rules | `(tactic| walk_at "gs") => `(tactic| repeat (first | dsimp only [a_lk0, a_lk1, a_lkS, a_V, a_vl, a_c, a_op, a_un, a_test, a_toB, a_tr, a_trB, a_trI, a_trN, a_and, a_or, a_not, a_andV, a_orV, a_notV, a_ifE, a_nil, a_cons, a_lst, a_tup, a_call, a_CB, a_BM, a_BM0, a_sl, a_part, a_partI, a_noPart, a_seq, a_next, a_brk, a_cont, a_asg, a_name, a_drop, a_ret, a_retN, a_if, a_aug, a_for, a_lc, a_jR1, a_jR2, a_jL, a_jT, a_rg1, a_rg2, a_gsub, a_yes, a_addI, a_addS, a_addR, a_iaddI, a_iaddS, a_sub, a_mulI, a_mulR, a_fdiv, a_mod, a_pow, a_shl, a_shr, a_lt, a_le, a_gt, a_ge, a_neg, a_EqI, a_EqS, a_EqB, a_EqNN, a_EqIN, a_EqNI, a_EqSN, a_EqNS, a_EqRR, a_EqRN, a_EqNR, a_NeI, a_NeS, a_NeB, a_NeNN, a_NeIN, a_NeNI, a_NeSN, a_NeNS, a_NeRR, a_NeRN, a_NeNR, a_isNN, a_isNI, a_isNS, a_isNB, a_isNR, a_notNN, a_notNI, a_notNS, a_notNB, a_notNR, a_intI, a_intB, a_abs, a_gnil, a_gcons, a_callS, a_raise0, a_tryAs, a_tryOnly, a_rev, a_jR3, wipe, List.set, List.nil_append, List.cons_append] | with_reducible (first
  | (apply h_draw 0; (case h => assumption); (case e => with_unfolding_all rfl); (case e2 => with_unfolding_all rfl); (case h0 => (first | decide | omega)); (case h1 => (first | decide | omega)); (case h2 => (first | decide | omega)); (case hs => (first | assumption | (apply Or.inl; assumption) | (apply Or.inr; simp))))
  | (apply h_draw 1; (case h => assumption); (case e => with_unfolding_all rfl); (case e2 => with_unfolding_all rfl); (case h0 => (first | decide | omega)); (case h1 => (first | decide | omega)); (case h2 => (first | decide | omega)); (case hs => (first | assumption | (apply Or.inl; assumption) | (apply Or.inr; simp))))
  | (apply h_draw 2; (case h => assumption); (case e => with_unfolding_all rfl); (case e2 => with_unfolding_all rfl); (case h0 => (first | decide | omega)); (case h1 => (first | decide | omega)); (case h2 => (first | decide | omega)); (case hs => (first | assumption | (apply Or.inl; assumption) | (apply Or.inr; simp))))
  | (apply h_draw 3; (case h => assumption); (case e => with_unfolding_all rfl); (case e2 => with_unfolding_all rfl); (case h0 => (first | decide | omega)); (case h1 => (first | decide | omega)); (case h2 => (first | decide | omega)); (case hs => (first | assumption | (apply Or.inl; assumption) | (apply Or.inr; simp))))
  | (apply h_ixL 0; (case h => assumption); (case e => with_unfolding_all rfl); (case hx => with_unfolding_all rfl))
  | (apply h_ixL 1; (case h => assumption); (case e => with_unfolding_all rfl); (case hx => with_unfolding_all rfl))
  | (apply h_ixL 2; (case h => assumption); (case e => with_unfolding_all rfl); (case hx => with_unfolding_all rfl))
  | (apply h_ixL 3; (case h => assumption); (case e => with_unfolding_all rfl); (case hx => with_unfolding_all rfl))
  | (apply h_ixL 4; (case h => assumption); (case e => with_unfolding_all rfl); (case hx => with_unfolding_all rfl))
  | (apply h_ixTv; (case hd => (first | apply Im.int | apply Im.str | apply Im.bl | apply Im.non | assumption | (apply h_imm 0; (case h => assumption); (case e => with_unfolding_all rfl)) | (apply h_imm 1; (case h => assumption); (case e => with_unfolding_all rfl)) | (apply h_imm 2; (case h => assumption); (case e => with_unfolding_all rfl)) | (apply h_imm 3; (case h => assumption); (case e => with_unfolding_all rfl)) | (apply h_imm 4; (case h => assumption); (case e => with_unfolding_all rfl)) | (apply h_imm 5; (case h => assumption); (case e => with_unfolding_all rfl)))); (case h0 => (first | decide | omega)); (case hx => with_unfolding_all rfl); (case hv => with_unfolding_all rfl))
  | (apply h_slPre; (case h => assumption); (case hd => (first | apply Im.int | apply Im.str | apply Im.bl | apply Im.non | assumption | (apply h_imm 0; (case h => assumption); (case e => with_unfolding_all rfl)) | (apply h_imm 1; (case h => assumption); (case e => with_unfolding_all rfl)) | (apply h_imm 2; (case h => assumption); (case e => with_unfolding_all rfl)) | (apply h_imm 3; (case h => assumption); (case e => with_unfolding_all rfl)) | (apply h_imm 4; (case h => assumption); (case e => with_unfolding_all rfl)) | (apply h_imm 5; (case h => assumption); (case e => with_unfolding_all rfl)))); (case h0 => (first | decide | omega)))
  | (apply h_gtupV; (case h => (first | apply Im.int | apply Im.str | apply Im.bl | apply Im.non | assumption | (apply h_imm 0; (case h => assumption); (case e => with_unfolding_all rfl)) | (apply h_imm 1; (case h => assumption); (case e => with_unfolding_all rfl)) | (apply h_imm 2; (case h => assumption); (case e => with_unfolding_all rfl)) | (apply h_imm 3; (case h => assumption); (case e => with_unfolding_all rfl)) | (apply h_imm 4; (case h => assumption); (case e => with_unfolding_all rfl)) | (apply h_imm 5; (case h => assumption); (case e => with_unfolding_all rfl)))); (case hn => with_unfolding_all rfl); (case hv => with_unfolding_all rfl))
  | (apply h_isiB)
  | (apply h_eqr)
  | (apply iteT)
  | (apply h_nT)
  | (apply h_nF)
  | (apply iteF)
  | (apply h_brT)
  | (apply h_brF)
  | (apply h_brET)
  | (apply h_brEF)
  | (apply h_brNT)
  | (apply h_brNF)
  | (apply h_append 0; (case h => assumption); (case e => with_unfolding_all rfl); (case hs => (first | assumption | (apply Or.inl; assumption) | (apply Or.inr; simp))); (case z => (rw [sizeLine_eq]; ((try simp only [List.length_append, List.length_cons, List.length_nil, List.length_map, List.length_replicate, List.length_set, List.length_take, List.length_drop]) <;> omega))))
  | (apply h_append 1; (case h => assumption); (case e => with_unfolding_all rfl); (case hs => (first | assumption | (apply Or.inl; assumption) | (apply Or.inr; simp))); (case z => (rw [sizeLine_eq]; ((try simp only [List.length_append, List.length_cons, List.length_nil, List.length_map, List.length_replicate, List.length_set, List.length_take, List.length_drop]) <;> omega))))
  | (apply h_append 2; (case h => assumption); (case e => with_unfolding_all rfl); (case hs => (first | assumption | (apply Or.inl; assumption) | (apply Or.inr; simp))); (case z => (rw [sizeLine_eq]; ((try simp only [List.length_append, List.length_cons, List.length_nil, List.length_map, List.length_replicate, List.length_set, List.length_take, List.length_drop]) <;> omega))))
  | (apply h_append 3; (case h => assumption); (case e => with_unfolding_all rfl); (case hs => (first | assumption | (apply Or.inl; assumption) | (apply Or.inr; simp))); (case z => (rw [sizeLine_eq]; ((try simp only [List.length_append, List.length_cons, List.length_nil, List.length_map, List.length_replicate, List.length_set, List.length_take, List.length_drop]) <;> omega))))
  | (apply h_append 4; (case h => assumption); (case e => with_unfolding_all rfl); (case hs => (first | assumption | (apply Or.inl; assumption) | (apply Or.inr; simp))); (case z => (rw [sizeLine_eq]; ((try simp only [List.length_append, List.length_cons, List.length_nil, List.length_map, List.length_replicate, List.length_set, List.length_take, List.length_drop]) <;> omega))))
  | (apply h_appendD 0; (case h => assumption); (case e => with_unfolding_all rfl); (case hd => (first | apply Im.int | apply Im.str | apply Im.bl | apply Im.non | assumption | (apply h_imm 0; (case h => assumption); (case e => with_unfolding_all rfl)) | (apply h_imm 1; (case h => assumption); (case e => with_unfolding_all rfl)) | (apply h_imm 2; (case h => assumption); (case e => with_unfolding_all rfl)) | (apply h_imm 3; (case h => assumption); (case e => with_unfolding_all rfl)) | (apply h_imm 4; (case h => assumption); (case e => with_unfolding_all rfl)) | (apply h_imm 5; (case h => assumption); (case e => with_unfolding_all rfl)))); (case hs => (first | assumption | (apply Or.inl; assumption) | (apply Or.inr; simp))); (case z => (rw [sizeLine_eq]; ((try simp only [List.length_append, List.length_cons, List.length_nil, List.length_map, List.length_replicate, List.length_set, List.length_take, List.length_drop]) <;> omega))))
  | (apply h_appendD 1; (case h => assumption); (case e => with_unfolding_all rfl); (case hd => (first | apply Im.int | apply Im.str | apply Im.bl | apply Im.non | assumption | (apply h_imm 0; (case h => assumption); (case e => with_unfolding_all rfl)) | (apply h_imm 1; (case h => assumption); (case e => with_unfolding_all rfl)) | (apply h_imm 2; (case h => assumption); (case e => with_unfolding_all rfl)) | (apply h_imm 3; (case h => assumption); (case e => with_unfolding_all rfl)) | (apply h_imm 4; (case h => assumption); (case e => with_unfolding_all rfl)) | (apply h_imm 5; (case h => assumption); (case e => with_unfolding_all rfl)))); (case hs => (first | assumption | (apply Or.inl; assumption) | (apply Or.inr; simp))); (case z => (rw [sizeLine_eq]; ((try simp only [List.length_append, List.length_cons, List.length_nil, List.length_map, List.length_replicate, List.length_set, List.length_take, List.length_drop]) <;> omega))))
  | (apply h_appendD 2; (case h => assumption); (case e => with_unfolding_all rfl); (case hd => (first | apply Im.int | apply Im.str | apply Im.bl | apply Im.non | assumption | (apply h_imm 0; (case h => assumption); (case e => with_unfolding_all rfl)) | (apply h_imm 1; (case h => assumption); (case e => with_unfolding_all rfl)) | (apply h_imm 2; (case h => assumption); (case e => with_unfolding_all rfl)) | (apply h_imm 3; (case h => assumption); (case e => with_unfolding_all rfl)) | (apply h_imm 4; (case h => assumption); (case e => with_unfolding_all rfl)) | (apply h_imm 5; (case h => assumption); (case e => with_unfolding_all rfl)))); (case hs => (first | assumption | (apply Or.inl; assumption) | (apply Or.inr; simp))); (case z => (rw [sizeLine_eq]; ((try simp only [List.length_append, List.length_cons, List.length_nil, List.length_map, List.length_replicate, List.length_set, List.length_take, List.length_drop]) <;> omega))))
  | (apply h_appendD 3; (case h => assumption); (case e => with_unfolding_all rfl); (case hd => (first | apply Im.int | apply Im.str | apply Im.bl | apply Im.non | assumption | (apply h_imm 0; (case h => assumption); (case e => with_unfolding_all rfl)) | (apply h_imm 1; (case h => assumption); (case e => with_unfolding_all rfl)) | (apply h_imm 2; (case h => assumption); (case e => with_unfolding_all rfl)) | (apply h_imm 3; (case h => assumption); (case e => with_unfolding_all rfl)) | (apply h_imm 4; (case h => assumption); (case e => with_unfolding_all rfl)) | (apply h_imm 5; (case h => assumption); (case e => with_unfolding_all rfl)))); (case hs => (first | assumption | (apply Or.inl; assumption) | (apply Or.inr; simp))); (case z => (rw [sizeLine_eq]; ((try simp only [List.length_append, List.length_cons, List.length_nil, List.length_map, List.length_replicate, List.length_set, List.length_take, List.length_drop]) <;> omega))))
  | (apply h_appendD 4; (case h => assumption); (case e => with_unfolding_all rfl); (case hd => (first | apply Im.int | apply Im.str | apply Im.bl | apply Im.non | assumption | (apply h_imm 0; (case h => assumption); (case e => with_unfolding_all rfl)) | (apply h_imm 1; (case h => assumption); (case e => with_unfolding_all rfl)) | (apply h_imm 2; (case h => assumption); (case e => with_unfolding_all rfl)) | (apply h_imm 3; (case h => assumption); (case e => with_unfolding_all rfl)) | (apply h_imm 4; (case h => assumption); (case e => with_unfolding_all rfl)) | (apply h_imm 5; (case h => assumption); (case e => with_unfolding_all rfl)))); (case hs => (first | assumption | (apply Or.inl; assumption) | (apply Or.inr; simp))); (case z => (rw [sizeLine_eq]; ((try simp only [List.length_append, List.length_cons, List.length_nil, List.length_map, List.length_replicate, List.length_set, List.length_take, List.length_drop]) <;> omega))))
  | (apply h_tyL 0; (case h => assumption); (case e => with_unfolding_all rfl))
  | (apply h_tyL 1; (case h => assumption); (case e => with_unfolding_all rfl))
  | (apply h_tyL 2; (case h => assumption); (case e => with_unfolding_all rfl))
  | (apply h_tyL 3; (case h => assumption); (case e => with_unfolding_all rfl))
  | (apply h_tyL 4; (case h => assumption); (case e => with_unfolding_all rfl))
  | (apply h_tyD 0; (case h => assumption); (case e => with_unfolding_all rfl))
  | (apply h_tyD 1; (case h => assumption); (case e => with_unfolding_all rfl))
  | (apply h_tyD 2; (case h => assumption); (case e => with_unfolding_all rfl))
  | (apply h_tyD 3; (case h => assumption); (case e => with_unfolding_all rfl))
  | (apply h_tyD 4; (case h => assumption); (case e => with_unfolding_all rfl))
  | (apply h_tyS)
  | (apply h_lenL 0; (case h => assumption); (case e => with_unfolding_all rfl))
  | (apply h_lenL 1; (case h => assumption); (case e => with_unfolding_all rfl))
  | (apply h_lenL 2; (case h => assumption); (case e => with_unfolding_all rfl))
  | (apply h_lenL 3; (case h => assumption); (case e => with_unfolding_all rfl))
  | (apply h_lenL 4; (case h => assumption); (case e => with_unfolding_all rfl))
  | (apply h_lenD 0; (case h => assumption); (case e => with_unfolding_all rfl))
  | (apply h_lenD 1; (case h => assumption); (case e => with_unfolding_all rfl))
  | (apply h_lenD 2; (case h => assumption); (case e => with_unfolding_all rfl))
  | (apply h_lenD 3; (case h => assumption); (case e => with_unfolding_all rfl))
  | (apply h_lenD 4; (case h => assumption); (case e => with_unfolding_all rfl))
  | (apply h_setL 0; (case h => assumption); (case e => with_unfolding_all rfl); (case hs => (first | assumption | (apply Or.inl; assumption) | (apply Or.inr; simp))); (case hi => with_unfolding_all rfl))
  | (apply h_setL 1; (case h => assumption); (case e => with_unfolding_all rfl); (case hs => (first | assumption | (apply Or.inl; assumption) | (apply Or.inr; simp))); (case hi => with_unfolding_all rfl))
  | (apply h_setL 2; (case h => assumption); (case e => with_unfolding_all rfl); (case hs => (first | assumption | (apply Or.inl; assumption) | (apply Or.inr; simp))); (case hi => with_unfolding_all rfl))
  | (apply h_setL 3; (case h => assumption); (case e => with_unfolding_all rfl); (case hs => (first | assumption | (apply Or.inl; assumption) | (apply Or.inr; simp))); (case hi => with_unfolding_all rfl))
  | (apply h_setL 4; (case h => assumption); (case e => with_unfolding_all rfl); (case hs => (first | assumption | (apply Or.inl; assumption) | (apply Or.inr; simp))); (case hi => with_unfolding_all rfl))
  | (apply h_isLn 0; (case h => assumption); (case e => with_unfolding_all rfl))
  | (apply h_isLn 1; (case h => assumption); (case e => with_unfolding_all rfl))
  | (apply h_isLn 2; (case h => assumption); (case e => with_unfolding_all rfl))
  | (apply h_isLn 3; (case h => assumption); (case e => with_unfolding_all rfl))
  | (apply h_isLn 4; (case h => assumption); (case e => with_unfolding_all rfl))
  | (apply h_isLd 0; (case h => assumption); (case e => with_unfolding_all rfl))
  | (apply h_isLd 1; (case h => assumption); (case e => with_unfolding_all rfl))
  | (apply h_isLd 2; (case h => assumption); (case e => with_unfolding_all rfl))
  | (apply h_isLd 3; (case h => assumption); (case e => with_unfolding_all rfl))
  | (apply h_isLd 4; (case h => assumption); (case e => with_unfolding_all rfl))
  | (apply h_isT; (case h => (first | apply Im.int | apply Im.str | apply Im.bl | apply Im.non | assumption | (apply h_imm 0; (case h => assumption); (case e => with_unfolding_all rfl)) | (apply h_imm 1; (case h => assumption); (case e => with_unfolding_all rfl)) | (apply h_imm 2; (case h => assumption); (case e => with_unfolding_all rfl)) | (apply h_imm 3; (case h => assumption); (case e => with_unfolding_all rfl)) | (apply h_imm 4; (case h => assumption); (case e => with_unfolding_all rfl)) | (apply h_imm 5; (case h => assumption); (case e => with_unfolding_all rfl)))))
  | (apply h_tupOf 0; (case h => assumption); (case e => with_unfolding_all rfl))
  | (apply h_tupOf 1; (case h => assumption); (case e => with_unfolding_all rfl))
  | (apply h_tupOf 2; (case h => assumption); (case e => with_unfolding_all rfl))
  | (apply h_tupOf 3; (case h => assumption); (case e => with_unfolding_all rfl))
  | (apply h_tupOf 4; (case h => assumption); (case e => with_unfolding_all rfl))
  | (apply h_listOf 0; (case h => assumption); (case e => with_unfolding_all rfl))
  | (apply h_listOf 1; (case h => assumption); (case e => with_unfolding_all rfl))
  | (apply h_listOf 2; (case h => assumption); (case e => with_unfolding_all rfl))
  | (apply h_listOf 3; (case h => assumption); (case e => with_unfolding_all rfl))
  | (apply h_listOf 4; (case h => assumption); (case e => with_unfolding_all rfl))
  | (apply h_lst; (case h => assumption); (case z => (rw [sizeLine_eq]; ((try simp only [List.length_append, List.length_cons, List.length_nil, List.length_map, List.length_replicate, List.length_set, List.length_take, List.length_drop]) <;> omega))))
  | (apply h_tup; (case h => assumption); (case z => (rw [sizeLine_eq]; ((try simp only [List.length_append, List.length_cons, List.length_nil, List.length_map, List.length_replicate, List.length_set, List.length_take, List.length_drop]) <;> omega))); (case hd => repeat (first | apply Ims.nil | (apply Ims.cons; (focus (first | apply Im.int | apply Im.str | apply Im.bl | apply Im.non | assumption | (apply h_imm 0; (case h => assumption); (case e => with_unfolding_all rfl)) | (apply h_imm 1; (case h => assumption); (case e => with_unfolding_all rfl)) | (apply h_imm 2; (case h => assumption); (case e => with_unfolding_all rfl)) | (apply h_imm 3; (case h => assumption); (case e => with_unfolding_all rfl)) | (apply h_imm 4; (case h => assumption); (case e => with_unfolding_all rfl)) | (apply h_imm 5; (case h => assumption); (case e => with_unfolding_all rfl))))))))
  | (apply And.intro; (case left => (first | decide | omega)))
  | (apply h_mr; (case h1 => (first | decide | omega)); (case h2 => (first | decide | omega)))
  | (apply h_ml; (case h1 => (first | decide | omega)); (case h2 => (first | decide | omega)))
  | (apply h_dv; (case h1 => (first | decide | omega)); (case h2 => (first | decide | omega)))
  | (apply h_pw; (case h1 => (first | decide | omega)); (case h2 => (first | decide | omega)); (case h3 => decide))
  | (apply And.intro; (case left => (rw [sizeLine_eq]; ((try simp only [List.length_append, List.length_cons, List.length_nil, List.length_map, List.length_replicate, List.length_set, List.length_take, List.length_drop]) <;> omega))))) | with_reducible intro))

def t__law_cell (K : PySem.W.Frag) (A : Ad) : TS :=
  (tSeq (mIf (mTest (tOp mLt (mV 1) (tCB (hLen K) (tCons (mV 0) tNil))))
    (tRet (tOp (rIx K) (mV 0) (mV 1)))
    tNext)
  (tRet (tC (.int 0))))
theorem rd__law_cell {K : PySem.W.Frag} {A : Ad} {vs : List V} {H : Hp} {Q : VK} {E : XK} (h : sp__law_cell K A vs H Q E) : t__law_cell K A { nx := fun _ H' => Q .non H', rt := Q } (start ["_law_script", "_law_k"] vs) H := by
  obtain ⟨a, ns, i, rfl, hS, hi, k⟩ := h
  show t__law_cell K A _ [some (.ref a), some (.int i)] H
  unfold t__law_cell
  walk_at "gs"
  refine h_lenQ hS ?_
  walk_at "gs"
  rw [List.length_map]
  refine h_br (fun hc => ?_) (fun hc => ?_)
  · walk_at "gs"
    exact h_ixQ hS (at_ints hi hc) (k _ _ (Same.refl H))
  · walk_at "gs"
    exact k _ _ (Same.refl H)
def t__law_draw (K : PySem.W.Frag) (A : Ad) : TS :=
  (tSeq (tAsg (tOp (rIx K) (mV 0) (tC (.int 1))) (gName 2))
  (tSeq (tAsg (tOp (mAdd K) (mV 2) (tC (.int 1))) (gSub (mV 0) (tC (.int 1)) rSetL))
  (tSeq (mIf (mTest (tOp mLt (mV 2) (tCB (hLen K) (tCons (tOp (rIx K) (mV 0) (tC (.int 0))) tNil))))
    (tRet (tOp mMod (tCB mInt (tCons (tOp (rIx K) (tOp (rIx K) (mV 0) (tC (.int 0))) (mV 2)) tNil)) (mV 1)))
    tNext)
  (tRet (tOp mMod (tCB mInt (tCons (tOp (mAdd K) (tOp mMul (mV 2) (tC (.int 7))) (tC (.int 3))) tNil)) (mV 1))))))
theorem rd__law_draw {K : PySem.W.Frag} {A : Ad} {vs : List V} {H : Hp} {Q : VK} {E : XK} (h : sp__law_draw K A vs H Q E) : t__law_draw K A { nx := fun _ H' => Q .non H', rt := Q } (start ["_law_box", "_law_many", "_law_at"] vs) H := by
  obtain ⟨b, g, ds, i, m, rfl, hb, hg, hbg, hi, hi2, hm, k⟩ := h
  show t__law_draw K A _ [some (.ref b), some (.int m), none] H
  unfold t__law_draw
  have hL : Led K H [b] H [(b, .raw (.lst [.ref g, .int i])), (g, .raw (.lst (ds.map V.int)))] [] := Led.mk2 hb hg hbg
  walk_at "gs"
  rename_i H1 h1
  rw [List.length_map]
  have fin : ∀ z, Q (.int (z % m)) H1 := fun z => k _ H1 (Int.emod_nonneg _ (by omega)) (Int.emod_lt_of_pos _ hm) h1.kp (h1.raw 0 rfl)
  refine h_br (fun hc => ?_) (fun hc => ?_)
  · walk_at "gs"
    refine h_ixL (n := 1) h1 rfl (at_ints hi hc) ?_
    walk_at "gs"
    exact fin _
  · walk_at "gs"
    exact fin _
def t__law_digits (K : PySem.W.Frag) (A : Ad) : TS :=
  (tSeq (tAsg (tLst tNil) (gName 3))
  (tSeq (tFor (jR2 (tCons (mV 1) (tCons (mV 2) tNil))) (gName 4)
    (tSeq (tAsg (tCall (sp__law_cell K A) [] E0 (tCons (mV 0) (tCons (mV 4) tNil))) (gName 5))
  (mCut (mIf (mTest (tOp mLt (mV 5) (tC (.int 0))))
    (tAsg (tOp mSub (tC (.int 1)) (tOp mMul (tC (.int 2)) (mV 5))) (gName 5))
    tNext)
  (mIf (mTest (tOp mGe (mV 5) (tOp mPow (tC (.int 10)) (tC (.int 18)))))
    (tFor (jR1 (tCons (tC (.int 60)) tNil)) (gName 6)
    (mIf (mTest (tOp mGt (mV 5) (tC (.int 0))))
    (tSeq (tDrop (tBM K "list" rAppend (mV 3) (tCons (tOp mMod (tCB mInt (tCons (mV 5) tNil)) (tC (.int 1000))) tNil)))
  (tAsg (tOp mFdiv (mV 5) (tC (.int 1000))) (gName 5)))
    tNext))
    (tSeq (tAsg (tOp mMod (tCB mInt (tCons (tOp (mAdd K) (tOp (mAdd K) (tOp mMul (mV 5) (tC (.int 48271))) (tOp mMul (mV 4) (tC (.int 69621)))) (tC (.int 11))) tNil)) (tC (.int 2147483647))) (gName 7))
  (tFor (jR1 (tCons (tC (.int 12)) tNil)) (gName 6)
    (tSeq (tAsg (tOp mMod (tCB mInt (tCons (tOp (mAdd K) (tOp (mAdd K) (tOp mMul (mV 7) (tC (.int 16807))) (tOp mMul (tC (.int 7)) (mV 6))) (tC (.int 1))) tNil)) (tC (.int 2147483647))) (gName 7))
  (tDrop (tBM K "list" rAppend (mV 3) (tCons (tOp mMod (tCB mInt (tCons (tOp mFdiv (mV 7) (tC (.int 997))) tNil)) (tC (.int 1000))) tNil))))))))))
  (tRet (mV 3))))
theorem rd__law_digits {K : PySem.W.Frag} {A : Ad} {vs : List V} {H : Hp} {Q : VK} {E : XK} (h : sp__law_digits K A vs H Q E) :
    t__law_digits K A { nx := fun _ H' => Q .non H', rt := Q } (start ["_law_script", "_law_first", "_law_last", "_law_digits_here", "_law_k", "_law_cell_here", "_law_turn", "_law_seed"] vs) H := by
  obtain ⟨a, ns, f, l, rfl, hS, hf, hf2, hl, hl2, k⟩ := h
  show t__law_digits K A _ [some (.ref a), some (.int f), some (.int l), none, none, none, none, none] H
  unfold t__law_digits
  have hL : Led K H [] H [] [] := Led.start
  walk_at "gs"
  rename_i p H1 np h1
  have np : H p = none := np.elim id fun z => nomatch z
  refine lpR (fun i σ H2 => ∃ (ds : List Int) (y4 y5 y6 y7 : Option V), σ = [some (.ref a), some (.int f), some (.int l), some (.ref p), y4, y5, y6, y7] ∧ ds.length ≤ 60 * i ∧ Led K H [] H2 [(p, .raw (.lst (ds.map V.int)))] [])
    ⟨[], none, none, none, none, rfl, Nat.le_refl _, h1⟩ ?_ ?_
  · rintro i σ H2 hi ⟨ds, y4, y5, y6, y7, rfl, hz, h2⟩
    walk_at "gs"
    refine ⟨a, ns, f + i, rfl, Same.seq (KBs.same h2.kp) hS, by omega, fun z H3 s3 => ?_⟩
    have h3 := h2.same s3
    walk_at "gs"
    refine h_cut (fun σ H4 => ∃ z : Int, σ = [some (.ref a), some (.int f), some (.int l), some (.ref p), some (.int (f + i)), some (.int z), y6, y7] ∧ Led K H [] H4 [(p, .raw (.lst (ds.map V.int)))] []) ?_ ?_
    · walk_at "gs"
      refine h_br (fun hc => ?_) (fun hc => ?_)
      · walk_at "gs"
        exact ⟨_, rfl, h3⟩
      · walk_at "gs"
        exact ⟨_, rfl, h3⟩
    · rintro σ H4 ⟨z, rfl, h4⟩
      walk_at "gs"
      refine h_br (fun hc => ?_) (fun hc => ?_)
      · walk_at "gs"
        refine lpR (fun j σ H5 => ∃ (ds : List Int) (z : Int) (y6 : Option V), σ = [some (.ref a), some (.int f), some (.int l), some (.ref p), some (.int (f + i)), some (.int z), y6, y7] ∧ ds.length ≤ 60 * i + j ∧ Led K H [] H5 [(p, .raw (.lst (ds.map V.int)))] [])
          ⟨ds, z, y6, rfl, hz, h4⟩ ?_ ?_
        · rintro j σ H5 hj ⟨ds, z, y6, rfl, hz, h5⟩
          walk_at "gs"
          refine h_br (fun hc => ?_) (fun hc => ?_)
          · walk_at "gs"
            rename_i H6 h6
            rw [map_snoc] at h6
            exact ⟨_, _, _, rfl, by rw [List.length_append]; show ds.length + 1 ≤ _; omega, h6⟩
          · walk_at "gs"
            exact ⟨ds, z, _, rfl, by omega, h5⟩
        · rintro σ H5 ⟨ds, z, y6, rfl, hz, h5⟩
          walk_at "gs"
          exact ⟨ds, _, _, _, _, rfl, by simp at hz; omega, h5⟩
      · walk_at "gs"
        refine lpR (fun j σ H5 => ∃ (ds : List Int) (w : Int) (y6 : Option V), σ = [some (.ref a), some (.int f), some (.int l), some (.ref p), some (.int (f + i)), some (.int z), y6, some (.int w)] ∧ (0 ≤ w ∧ w < 2147483647) ∧ ds.length ≤ 60 * i + j ∧ Led K H [] H5 [(p, .raw (.lst (ds.map V.int)))] [])
          ⟨ds, _, y6, rfl, ⟨Int.emod_nonneg _ (by decide), Int.emod_lt_of_pos _ (by decide)⟩, hz, h4⟩ ?_ ?_
        · rintro j σ H5 hj ⟨ds, w, y6, rfl, ⟨hw, hw2⟩, hz, h5⟩
          walk_at "gs"
          rename_i H6 h6
          rw [map_snoc] at h6
          exact ⟨_, _, _, rfl, ⟨Int.emod_nonneg _ (by decide), Int.emod_lt_of_pos _ (by decide)⟩, by rw [List.length_append]; show ds.length + 1 ≤ _; omega, h6⟩
        · rintro σ H5 ⟨ds, w, y6, rfl, hw, hz, h5⟩
          walk_at "gs"
          exact ⟨ds, _, _, _, _, rfl, by simp at hz; omega, h5⟩
  · rintro σ H2 ⟨ds, y4, y5, y6, y7, rfl, hz, h2⟩
    walk_at "gs"
    exact k p H2 ds (KBs.same h2.kp) np (h2.raw 0 rfl)

/-! ### digits to a base -/
def vn (b : Int) : List Int → Int
  | [] => 0
  | x :: r => x + b * vn b r
def dg (b : Int) : Nat → Int → List Int
  | 0, _ => []
  | n + 1, z => z % b :: dg b n (z / b)
theorem dg_len (b : Int) : ∀ (n : Nat) (z : Int), (dg b n z).length = n
  | 0, _ => rfl
  | n + 1, z => by rw [dg, List.length_cons, dg_len b n]
theorem dg_app {b : Int} (hb : 0 < b) : ∀ (n m : Nat) (z : Int), dg b (n + m) z = dg b n z ++ dg b m (z / b ^ n)
  | 0, m, z => by rw [Nat.zero_add, Int.pow_zero, Int.ediv_one]; rfl
  | n + 1, m, z => by
    rw [show n + 1 + m = (n + m) + 1 by omega, dg, dg_app hb n m, dg, Int.ediv_ediv_of_nonneg (by omega), Int.pow_succ, Int.mul_comm]
    rfl
theorem dg_snoc {b : Int} (hb : 0 < b) (n : Nat) (z : Int) : dg b (n + 1) z = dg b n z ++ [z / b ^ n % b] := dg_app hb n 1 z
theorem dg_mod {b : Int} (hb : 0 < b) : ∀ (n : Nat) (z : Int), dg b n (z % b ^ n) = dg b n z
  | 0, _ => rfl
  | n + 1, z => by
    have hp : 0 < b ^ n := Int.pow_pos hb
    have e : b ^ (n + 1) = b * b ^ n := by rw [Int.pow_succ, Int.mul_comm]
    rw [dg, dg, e]
    have h1 : z % (b * b ^ n) % b = z % b := Int.emod_emod_of_dvd z (Int.dvd_mul_right b (b ^ n))
    have h2 : z % (b * b ^ n) / b = z / b % b ^ n := by
      rw [Int.emod_def z (b * b ^ n), Int.emod_def (z / b) (b ^ n), Int.ediv_ediv_of_nonneg (by omega), Int.mul_assoc, Int.sub_eq_add_neg, Int.neg_mul_eq_mul_neg, Int.add_mul_ediv_left _ _ (by omega), Int.sub_eq_add_neg]
    rw [h1, h2, dg_mod hb n]
theorem dg_take {b : Int} (hb : 0 < b) (n k : Nat) (h : k ≤ n) (z : Int) : (dg b n z).take k = dg b k z := by
  obtain ⟨m, rfl⟩ := Nat.exists_eq_add_of_le h
  rw [dg_app hb, List.take_left' (dg_len b k z)]
theorem dg_drop {b : Int} (hb : 0 < b) (n k : Nat) (h : k ≤ n) (z : Int) : (dg b n z).drop k = dg b (n - k) (z / b ^ k) := by
  obtain ⟨m, rfl⟩ := Nat.exists_eq_add_of_le h
  rw [dg_app hb, List.drop_left' (dg_len b k z), Nat.add_sub_cancel_left]
theorem dg_rng {b : Int} (hb : 0 < b) : ∀ (n : Nat) (z x : Int), x ∈ dg b n z → 0 ≤ x ∧ x < b
  | 0, _, _, h => nomatch h
  | n + 1, z, x, h => by
    rcases List.mem_cons.mp h with h | h
    · rw [h]
      exact ⟨Int.emod_nonneg _ (by omega), Int.emod_lt_of_pos _ hb⟩
    · exact dg_rng hb n _ x h
theorem vn_app (b : Int) : ∀ l r : List Int, vn b (l ++ r) = vn b l + b ^ l.length * vn b r
  | [], r => by simp [vn]
  | x :: l, r => by
    rw [List.cons_append, vn, vn, vn_app b l r, List.length_cons, Int.pow_succ, Int.mul_add, Int.add_assoc, Int.mul_comm (b ^ l.length) b, Int.mul_assoc]
theorem vn_dg {b : Int} (hb : 0 < b) : ∀ (n : Nat) (z : Int), vn b (dg b n z) = z % b ^ n
  | 0, z => by rw [Int.pow_zero, Int.emod_one]; rfl
  | n + 1, z => by
    have hp : 0 < b ^ n := Int.pow_pos hb
    have e : b ^ (n + 1) = b * b ^ n := by rw [Int.pow_succ, Int.mul_comm]
    rw [dg, vn, vn_dg hb n, e]
    have h2 : z % (b * b ^ n) / b = z / b % b ^ n := by
      rw [Int.emod_def z (b * b ^ n), Int.emod_def (z / b) (b ^ n), Int.ediv_ediv_of_nonneg (by omega), Int.mul_assoc, Int.sub_eq_add_neg, Int.neg_mul_eq_mul_neg, Int.add_mul_ediv_left _ _ (by omega), Int.sub_eq_add_neg]
    have h1 : z % (b * b ^ n) % b = z % b := Int.emod_emod_of_dvd z (Int.dvd_mul_right b (b ^ n))
    have h3 := Int.emod_add_mul_ediv (z % (b * b ^ n)) b
    rw [h1, h2] at h3
    exact h3
theorem vn_rng {b : Int} (hb : 0 < b) : ∀ l : List Int, (∀ x ∈ l, 0 ≤ x ∧ x < b) → 0 ≤ vn b l ∧ vn b l < b ^ l.length
  | [], _ => ⟨Int.le_refl _, by rw [List.length_nil, Int.pow_zero]; exact (by decide : (0 : Int) < 1)⟩
  | x :: l, h => by
    obtain ⟨h1, h2⟩ := h x List.mem_cons_self
    obtain ⟨h3, h4⟩ := vn_rng hb l fun y hy => h y (List.mem_cons_of_mem _ hy)
    rw [vn, List.length_cons, Int.pow_succ]
    have h5 : 0 ≤ b * vn b l := Int.mul_nonneg (by omega) h3
    have h6 : b * vn b l ≤ b * (b ^ l.length - 1) := Int.mul_le_mul_of_nonneg_left (by omega) (by omega)
    rw [Int.mul_sub, Int.mul_one] at h6
    rw [Int.mul_comm (b ^ l.length) b]
    omega
theorem dg_vn {b : Int} (hb : 0 < b) : ∀ l : List Int, (∀ x ∈ l, 0 ≤ x ∧ x < b) → dg b l.length (vn b l) = l
  | [], _ => rfl
  | x :: l, h => by
    obtain ⟨h1, h2⟩ := h x List.mem_cons_self
    rw [List.length_cons, dg, vn, Int.add_mul_emod_self_left, Int.emod_eq_of_lt h1 h2, Int.add_mul_ediv_left _ _ (by omega), Int.ediv_eq_zero_of_lt h1 h2, Int.zero_add, dg_vn hb l fun y hy => h y (List.mem_cons_of_mem _ hy)]
/-- bits of bytes -/
theorem dg_bytes : ∀ (n : Nat) (z : Int), (dg 256 n z).flatMap (dg 2 8) = dg 2 (8 * n) z
  | 0, _ => rfl
  | n + 1, z => by
    rw [dg, List.flatMap_cons, dg_bytes n, show 8 * (n + 1) = 8 + 8 * n by omega, dg_app (by decide) 8 (8 * n) z]
    have e : z % 256 = z % 2 ^ 8 := rfl
    rw [e, dg_mod (by decide)]
    rfl
theorem bits_vn {l : List Int} (h : ∀ x ∈ l, 0 ≤ x ∧ x < 256) : l.flatMap (dg 2 8) = dg 2 (8 * l.length) (vn 256 l) := by
  have e := dg_vn (b := 256) (by decide) l h
  have q := dg_bytes l.length (vn 256 l)
  rw [e] at q
  exact q
theorem dg_get {b : Int} (hb : 0 < b) (n k : Nat) (h : k < n) (z : Int) : (dg b n z).getD k 0 = z / b ^ k % b := by
  have e := dg_drop hb n k (by omega) z
  rw [List.getD_eq_getElem?_getD]
  have q : (dg b n z)[k]? = ((dg b n z).drop k)[0]? := by rw [List.getElem?_drop, Nat.add_zero]
  rw [q, e, show n - k = (n - k - 1) + 1 by omega, dg]
  rfl
theorem mod_snoc (m : Nat) (y : Int) : y % 2 ^ (m + 1) = y % 2 ^ m + 2 ^ m * (y / 2 ^ m % 2) := by
  have h := vn_dg (b := 2) (by decide) (m + 1) y
  rw [dg_snoc (by decide), vn_app, vn_dg (by decide), dg_len] at h
  rw [← h]
  simp [vn]
/-! ### words -/
def Byt (ds : List Int) : Prop := ∀ b ∈ ds, 0 ≤ b ∧ b < 256
def ord (big : Bool) (l : List Int) : List Int := if big = true then l.reverse else l
def seg (ds : List Int) (o n : Nat) : List Int := (ds.take (o + n)).drop o
def wnum (ds : List Int) (o n : Nat) (big : Bool) : Int := vn 256 (ord big (seg ds o n))
def putSeg (ds : List Int) (o : Nat) (s : List Int) : List Int := ds.take o ++ s ++ ds.drop (o + s.length)
def put (ds : List Int) (o n : Nat) (big : Bool) (z : Int) : List Int := putSeg ds o (ord big (dg 256 n z))
def lo (w : Nat) (s : Bool) : Int := if s = true then 0 - 2 ^ (w - 1) else 0
def hi (w : Nat) (s : Bool) : Int := if s = true then 2 ^ (w - 1) - 1 else 2 ^ w - 1
def sgn (w : Nat) (s : Bool) (z : Int) : Int := if s = true ∧ 2 ^ (w - 1) ≤ z then z - 2 ^ w else z
def rslot (ds : List Int) (o n : Nat) (big : Bool) (f w : Nat) (s : Bool) : Int := sgn w s (wnum ds o n big / 2 ^ f % 2 ^ w)
def nslot (N : Int) (f w : Nat) (v : Int) : Int := N + (v % 2 ^ w - N / 2 ^ f % 2 ^ w) * 2 ^ f
def wslot (ds : List Int) (o n : Nat) (big : Bool) (f w : Nat) (v : Int) : List Int := put ds o n big (nslot (wnum ds o n big) f w v)
theorem ord_len (big : Bool) (l : List Int) : (ord big l).length = l.length := by
  unfold ord
  split
  · exact List.length_reverse
  · rfl
theorem ord_ord (big : Bool) (l : List Int) : ord big (ord big l) = l := by
  cases big
  · rfl
  · exact List.reverse_reverse l
theorem ord_mem {big : Bool} {l : List Int} {x : Int} : x ∈ ord big l ↔ x ∈ l := by
  cases big
  · exact Iff.rfl
  · exact List.mem_reverse
theorem seg_len {ds : List Int} {o n : Nat} (h : o + n ≤ ds.length) : (seg ds o n).length = n := by
  unfold seg
  rw [List.length_drop, List.length_take]
  omega
theorem seg_byt {ds : List Int} {o n : Nat} (h : Byt ds) : Byt (seg ds o n) := fun b hb => h b (List.mem_of_mem_take (List.mem_of_mem_drop hb))
theorem seg_get {ds : List Int} {o n i : Nat} (h : i < n) : (seg ds o n).getD i 0 = ds.getD (o + i) 0 := by
  unfold seg
  rw [List.getD_eq_getElem?_getD, List.getElem?_drop, List.getElem?_take_of_lt (by omega), List.getD_eq_getElem?_getD]
theorem ord_get {big : Bool} {l : List Int} {i : Nat} (h : i < l.length) : (ord big l).getD i 0 = l.getD (if big = true then l.length - 1 - i else i) 0 := by
  cases big
  · rfl
  · simp only [ord, if_true, List.getD_eq_getElem?_getD]
    rw [List.getElem?_reverse h]
theorem putSeg_seg {ds : List Int} {o n : Nat} (h : o + n ≤ ds.length) : putSeg ds o (seg ds o n) = ds := by
  unfold putSeg
  rw [seg_len h]
  have e : ds.take o ++ seg ds o n = ds.take (o + n) := by
    have q := List.take_append_drop o (ds.take (o + n))
    rw [List.take_take, Nat.min_eq_left (by omega)] at q
    exact q
  rw [e, List.take_append_drop]
theorem putSeg_len {ds s : List Int} {o : Nat} (h : o + s.length ≤ ds.length) : (putSeg ds o s).length = ds.length := by
  unfold putSeg
  rw [List.length_append, List.length_append, List.length_take, List.length_drop]
  omega
theorem putSeg_set {ds s : List Int} {o i : Nat} {z : Int} (h : o + s.length ≤ ds.length) (hi : i < s.length) : (putSeg ds o s).set (o + i) z = putSeg ds o (s.set i z) := by
  unfold putSeg
  have e : (ds.take o).length = o := by rw [List.length_take]; omega
  rw [List.append_assoc, List.set_append_right (o + i) z (by omega), e, Nat.add_sub_cancel_left, List.set_append_left i z hi, List.length_set, List.append_assoc]
theorem putSeg_putSeg {ds s t : List Int} {o : Nat} (h : o + s.length ≤ ds.length) (hst : s.length = t.length) : putSeg (putSeg ds o s) o t = putSeg ds o t := by
  unfold putSeg
  have e : (ds.take o).length = o := by rw [List.length_take]; omega
  have e2 : (ds.take o ++ s).length = o + t.length := by rw [List.length_append, e, hst]
  rw [List.append_assoc (ds.take o) s, List.take_left' e, ← List.append_assoc (ds.take o) s, List.drop_left' e2, hst]
theorem seg_putSeg {ds s : List Int} {o : Nat} (h : o + s.length ≤ ds.length) : seg (putSeg ds o s) o s.length = s := by
  unfold seg putSeg
  have e : (ds.take o).length = o := by rw [List.length_take]; omega
  have e2 : (ds.take o ++ s).length = o + s.length := by rw [List.length_append, e]
  rw [List.take_left' e2, List.drop_left' e]
theorem ord_set {big : Bool} {l : List Int} {i : Nat} {z : Int} (h : i < l.length) : (ord big l).set (if big = true then l.length - 1 - i else i) z = ord big (l.set i z) := by
  cases big
  · rfl
  · simp only [ord, if_true]
    refine List.ext_getElem? fun j => ?_
    by_cases hj : j < l.length
    · rw [List.getElem?_set, List.getElem?_reverse hj, List.getElem?_reverse (by rw [List.length_set]; exact hj), List.length_set, List.getElem?_set, List.length_reverse]
      by_cases e : l.length - 1 - i = j
      · rw [if_pos e, if_pos (by omega), if_pos (by omega), if_pos (by omega)]
      · rw [if_neg e, if_neg (by omega)]
    · rw [List.getElem?_eq_none (by rw [List.length_set, List.length_reverse]; omega), List.getElem?_eq_none (by rw [List.length_reverse, List.length_set]; omega)]
theorem byt_putSeg {ds s : List Int} {o : Nat} (h : Byt ds) (hs : Byt s) : Byt (putSeg ds o s) := fun b hb => by
  rcases List.mem_append.mp hb with hb | hb
  · rcases List.mem_append.mp hb with hb | hb
    · exact h b (List.mem_of_mem_take hb)
    · exact hs b hb
  · exact h b (List.mem_of_mem_drop hb)
theorem byt_ord {big : Bool} {s : List Int} (h : Byt s) : Byt (ord big s) := fun b hb => h b (ord_mem.mp hb)
theorem byt_dg (n : Nat) (z : Int) : Byt (dg 256 n z) := fun b hb => dg_rng (by decide) n z b hb
theorem put_len {ds : List Int} {o n : Nat} {big : Bool} {z : Int} (h : o + n ≤ ds.length) : (put ds o n big z).length = ds.length := putSeg_len (by rw [ord_len, dg_len]; exact h)
theorem byt_put {ds : List Int} {o n : Nat} {big : Bool} {z : Int} (h : Byt ds) : Byt (put ds o n big z) := byt_putSeg h (byt_ord (byt_dg n z))
theorem wnum_rng {ds : List Int} {o n : Nat} {big : Bool} (h : Byt ds) (hn : o + n ≤ ds.length) : 0 ≤ wnum ds o n big ∧ wnum ds o n big < 256 ^ n := by
  have q := vn_rng (b := 256) (by decide) (ord big (seg ds o n)) (byt_ord (seg_byt h))
  rw [ord_len, seg_len hn] at q
  exact q
theorem wnum_put {ds : List Int} {o n : Nat} {big : Bool} {z : Int} (hn : o + n ≤ ds.length) : wnum (put ds o n big z) o n big = z % 256 ^ n := by
  have l : (ord big (dg 256 n z)).length = n := by rw [ord_len, dg_len]
  have q := seg_putSeg (ds := ds) (s := ord big (dg 256 n z)) (o := o) (by rw [l]; exact hn)
  rw [l] at q
  unfold wnum put
  rw [q, ord_ord, vn_dg (by decide)]
theorem put_wnum {ds : List Int} {o n : Nat} {big : Bool} (h : Byt ds) (hn : o + n ≤ ds.length) : put ds o n big (wnum ds o n big) = ds := by
  have q := dg_vn (b := 256) (by decide) (ord big (seg ds o n)) (byt_ord (seg_byt h))
  rw [ord_len, seg_len hn] at q
  unfold put wnum
  rw [q, ord_ord, putSeg_seg hn]
/-- the bits of a changed slot -/
theorem nslot_bits (N : Int) (f w n : Nat) (v : Int) (h : f + w ≤ n) : dg 2 n (nslot N f w v) = (dg 2 n N).take f ++ dg 2 w v ++ (dg 2 n N).drop (f + w) := by
  have hf : (0 : Int) < 2 ^ f := Int.pow_pos (by decide)
  have hw : (0 : Int) < 2 ^ w := Int.pow_pos (by decide)
  obtain ⟨r, rfl⟩ := Nat.exists_eq_add_of_le h
  have e1 : nslot N f w v / 2 ^ f = N / 2 ^ f + (v % 2 ^ w - N / 2 ^ f % 2 ^ w) := by
    unfold nslot
    rw [Int.add_mul_ediv_right _ _ (by omega)]
  have e2 : nslot N f w v % 2 ^ f = N % 2 ^ f := by
    unfold nslot
    rw [Int.add_mul_emod_self_right]
  have e3 : N / 2 ^ f + (v % 2 ^ w - N / 2 ^ f % 2 ^ w) = v % 2 ^ w + 2 ^ w * (N / 2 ^ f / 2 ^ w) := by
    have q := Int.emod_add_mul_ediv (N / 2 ^ f) (2 ^ w)
    omega
  rw [dg_take (by decide) _ _ (by omega), dg_drop (by decide) _ _ h, Nat.add_sub_cancel_left, Nat.add_assoc, dg_app (by decide) f, dg_app (by decide) w, ← dg_mod (by decide) f (nslot N f w v), e2, dg_mod (by decide), e1, e3, ← dg_mod (by decide) w (_ + _), Int.add_mul_emod_self_left, Int.emod_emod_of_dvd _ (Int.dvd_refl _), dg_mod (by decide),
    Int.add_mul_ediv_left _ _ (by omega), Int.ediv_eq_zero_of_lt (Int.emod_nonneg _ (by omega)) (Int.emod_lt_of_pos _ hw), Int.zero_add, Int.ediv_ediv_of_nonneg (by omega), Int.pow_add, List.append_assoc]
theorem lo_hi {w : Nat} {s : Bool} (h : 0 < w) : lo w s ≤ hi w s ∧ hi w s - lo w s + 1 = 2 ^ w := by
  obtain ⟨k, rfl⟩ := Nat.exists_eq_add_of_le' h
  have hp : (0 : Int) < 2 ^ k := Int.pow_pos (by decide)
  unfold lo hi
  rw [Nat.add_sub_cancel, Int.pow_succ]
  cases s
  · simp only [Bool.false_eq_true, if_false]
    omega
  · simp only [if_true]
    omega
theorem p2_le {a b : Nat} (h : a ≤ b) : (2 : Int) ^ a ≤ 2 ^ b := by
  have := Nat.pow_le_pow_right (n := 2) (by decide) h
  exact_mod_cast this
theorem p2_pos (a : Nat) : (0 : Int) < 2 ^ a := Int.pow_pos (by decide)
/-! ### the promises of integers -/
def sp_power (K : PySem.W.Frag) (A : Ad) : Sp := fun vs H Q _ => ∃ n : Int, vs = [.int n] ∧ 0 ≤ n ∧ n ≤ 1000 ∧ Q (.int (2 ^ n.toNat)) H
def sp_bounds (K : PySem.W.Frag) (A : Ad) : Sp := fun vs H Q _ => ∃ (w : Int) (s : Bool), vs = [.int w, .bl s] ∧ 1 ≤ w ∧ w ≤ 63 ∧ ∀ p H', Same H H' → Im K H' (.ref p) (.tuple [.int (lo w.toNat s), .int (hi w.toNat s)]) → Q (.ref p) H'
def sp_word_number (K : PySem.W.Frag) (A : Ad) : Sp := fun vs H Q _ => ∃ (a : Addr) (ds : List Int) (o n : Int) (big : Bool), vs = [.ref a, .int o, .int n, .bl big] ∧ SqL K H a (ds.map V.int) ∧ 0 ≤ o ∧ 0 ≤ n ∧ n ≤ 1000 ∧ o + n ≤ ds.length ∧ Q (.int (wnum ds o.toNat n.toNat big)) H
def sp_put_word_number (K : PySem.W.Frag) (A : Ad) : Sp := fun vs H Q _ => ∃ (a : Addr) (ds : List Int) (o n : Int) (big : Bool) (z : Int), vs = [.ref a, .int o, .int n, .bl big, .int z] ∧ H a = some (.lst (ds.map V.int)) ∧ 0 ≤ o ∧ 0 ≤ n ∧ n ≤ 1000 ∧ o + n ≤ ds.length ∧
  ∀ H', KBs H H' [a] → H' a = some (.lst ((put ds o.toNat n.toNat big z).map V.int)) → Q .non H'
def sp_read_slot (K : PySem.W.Frag) (A : Ad) : Sp := fun vs H Q _ => ∃ (a : Addr) (ds : List Int) (o n : Int) (big : Bool) (f w : Int) (s : Bool), vs = [.ref a, .int o, .int n, .bl big, .int f, .int w, .bl s] ∧ SqL K H a (ds.map V.int) ∧ 0 ≤ o ∧ 0 ≤ n ∧ n ≤ 1000 ∧ o + n ≤ ds.length ∧ 0 ≤ f ∧ f ≤ 63 ∧ 1 ≤ w ∧ w ≤ 63 ∧
  Q (.int (rslot ds o.toNat n.toNat big f.toNat w.toNat s)) H
def sp_write_slot (K : PySem.W.Frag) (A : Ad) : Sp := fun vs H Q E => ∃ (a : Addr) (ds : List Int) (o n : Int) (big : Bool) (f w : Int) (s : Bool) (v : Int), vs = [.ref a, .int o, .int n, .bl big, .int f, .int w, .bl s, .int v] ∧ H a = some (.lst (ds.map V.int)) ∧ 0 ≤ o ∧ 0 ≤ n ∧ n ≤ 1000 ∧ o + n ≤ ds.length ∧ 0 ≤ f ∧ f ≤ 63 ∧ 1 ≤ w ∧ w ≤ 63 ∧
  (v < lo w.toNat s ∨ hi w.toNat s < v → ∀ H', Same H H' → E (.ref A.c_OutOfRange) none H') ∧
  (lo w.toNat s ≤ v → v ≤ hi w.toNat s → ∀ H', KBs H H' [a] → H' a = some (.lst ((wslot ds o.toNat n.toNat big f.toNat w.toNat v).map V.int)) → Q .non H')
def sp_read_word (K : PySem.W.Frag) (A : Ad) : Sp := fun vs H Q _ => ∃ (a : Addr) (ds : List Int) (o n : Int), vs = [.ref a, .int o, .int n] ∧ SqL K H a (ds.map V.int) ∧ 0 ≤ o ∧ 0 ≤ n ∧ n ≤ 1000 ∧ o + n ≤ ds.length ∧ Q (.int (wnum ds o.toNat n.toNat false)) H
def sp_write_word (K : PySem.W.Frag) (A : Ad) : Sp := fun vs H Q _ => ∃ (a : Addr) (ds : List Int) (o n : Int) (z : Int), vs = [.ref a, .int o, .int n, .int z] ∧ H a = some (.lst (ds.map V.int)) ∧ 0 ≤ o ∧ 0 ≤ n ∧ n ≤ 1000 ∧ o + n ≤ ds.length ∧
  ∀ H', KBs H H' [a] → H' a = some (.lst ((put ds o.toNat n.toNat false z).map V.int)) → Q .non H'
section
variable {K : PySem.W.Frag} {A : Ad} {H0 H : Hp} {S : List Addr} {L : List (Addr × Ent)} {I : List (V × PyData)} {Q : VK} {E : XK} {a : Addr} {ds : List Int} {o n f w z v : Int} {big s : Bool}
theorem h_power {n : Int} (h0 : 0 ≤ n) (h1 : n ≤ 1000) (k : Q (.int (2 ^ n.toNat)) H) : sp_power K A [.int n] H Q E := ⟨n, rfl, h0, h1, k⟩
theorem h_bounds (h : Led K H0 S H L I) (h0 : 1 ≤ w) (h1 : w ≤ 63) (k : ∀ p H', Led K H0 S H' L ((.ref p, .tuple [.int (lo w.toNat s), .int (hi w.toNat s)]) :: I) → Q (.ref p) H') : sp_bounds K A [.int w, .bl s] H Q E :=
  ⟨w, s, rfl, h0, h1, fun p H' s i => k p H' ((h.same s).imNew i)⟩
theorem h_wnum (m : Nat) (h : Led K H0 S H L I) (e : L[m]? = some (a, .raw (.lst (ds.map V.int)))) (h0 : 0 ≤ o) (h1 : 0 ≤ n) (h2 : n ≤ 1000) (h3 : o + n ≤ ds.length) (k : Q (.int (wnum ds o.toNat n.toNat big)) H) : sp_word_number K A [.ref a, .int o, .int n, .bl big] H Q E :=
  ⟨a, ds, o, n, big, rfl, h.sqL m e, h0, h1, h2, h3, k⟩
theorem h_rdword (m : Nat) (h : Led K H0 S H L I) (e : L[m]? = some (a, .raw (.lst (ds.map V.int)))) (h0 : 0 ≤ o) (h1 : 0 ≤ n) (h2 : n ≤ 1000) (h3 : o + n ≤ ds.length) (k : Q (.int (wnum ds o.toNat n.toNat false)) H) : sp_read_word K A [.ref a, .int o, .int n] H Q E :=
  ⟨a, ds, o, n, rfl, h.sqL m e, h0, h1, h2, h3, k⟩
theorem h_rslot (m : Nat) (h : Led K H0 S H L I) (e : L[m]? = some (a, .raw (.lst (ds.map V.int)))) (h0 : 0 ≤ o) (h1 : 0 ≤ n) (h2 : n ≤ 1000) (h3 : o + n ≤ ds.length) (h4 : 0 ≤ f) (h5 : f ≤ 63) (h6 : 1 ≤ w) (h7 : w ≤ 63) (k : Q (.int (rslot ds o.toNat n.toNat big f.toNat w.toNat s)) H) : sp_read_slot K A [.ref a, .int o, .int n, .bl big, .int f, .int w, .bl s] H Q E :=
  ⟨a, ds, o, n, big, f, w, s, rfl, h.sqL m e, h0, h1, h2, h3, h4, h5, h6, h7, k⟩
theorem h_put (m : Nat) (h : Led K H0 S H L I) (e : L[m]? = some (a, .raw (.lst (ds.map V.int)))) (h0 : 0 ≤ o) (h1 : 0 ≤ n) (h2 : n ≤ 1000) (h3 : o + n ≤ ds.length) (hs : H0 a = none ∨ a ∈ S) (k : ∀ H', Led K H0 S H' (L.set m (a, .raw (.lst ((put ds o.toNat n.toNat big z).map V.int)))) I → Q .non H') : sp_put_word_number K A [.ref a, .int o, .int n, .bl big, .int z] H Q E :=
  ⟨a, ds, o, n, big, z, rfl, h.raw m e, h0, h1, h2, h3, fun H' kb he => k H' (h.wr m e kb (h.raw m e) rfl he hs)⟩
theorem h_wrword (m : Nat) (h : Led K H0 S H L I) (e : L[m]? = some (a, .raw (.lst (ds.map V.int)))) (h0 : 0 ≤ o) (h1 : 0 ≤ n) (h2 : n ≤ 1000) (h3 : o + n ≤ ds.length) (hs : H0 a = none ∨ a ∈ S) (k : ∀ H', Led K H0 S H' (L.set m (a, .raw (.lst ((put ds o.toNat n.toNat false z).map V.int)))) I → Q .non H') : sp_write_word K A [.ref a, .int o, .int n, .int z] H Q E :=
  ⟨a, ds, o, n, z, rfl, h.raw m e, h0, h1, h2, h3, fun H' kb he => k H' (h.wr m e kb (h.raw m e) rfl he hs)⟩
theorem h_wslot (m : Nat) (h : Led K H0 S H L I) (e : L[m]? = some (a, .raw (.lst (ds.map V.int)))) (h0 : 0 ≤ o) (h1 : 0 ≤ n) (h2 : n ≤ 1000) (h3 : o + n ≤ ds.length) (h4 : 0 ≤ f) (h5 : f ≤ 63) (h6 : 1 ≤ w) (h7 : w ≤ 63) (hs : H0 a = none ∨ a ∈ S)
    (kx : v < lo w.toNat s ∨ hi w.toNat s < v → ∀ H', Led K H0 S H' L I → E (.ref A.c_OutOfRange) none H')
    (k : lo w.toNat s ≤ v → v ≤ hi w.toNat s → ∀ H', Led K H0 S H' (L.set m (a, .raw (.lst ((wslot ds o.toNat n.toNat big f.toNat w.toNat v).map V.int)))) I → Q .non H') : sp_write_slot K A [.ref a, .int o, .int n, .bl big, .int f, .int w, .bl s, .int v] H Q E :=
  ⟨a, ds, o, n, big, f, w, s, v, rfl, h.raw m e, h0, h1, h2, h3, h4, h5, h6, h7, fun c H' sm => kx c H' (h.same sm), fun c1 c2 H' kb he => k c1 c2 H' (h.wr m e kb (h.raw m e) rfl he hs)⟩
end

local macro_rules | `(tactic| walk_at "im") => `(tactic| (first | apply Im.int | apply Im.str | apply Im.bl | apply Im.non | assumption | (apply h_imm 0; (case h => assumption); (case e => with_unfolding_all rfl)) | (apply h_imm 1; (case h => assumption); (case e => with_unfolding_all rfl)) | (apply h_imm 2; (case h => assumption); (case e => with_unfolding_all rfl)) | (apply h_imm 3; (case h => assumption); (case e => with_unfolding_all rfl)) | (apply h_imm 4; (case h => assumption); (case e => with_unfolding_all rfl)) | (apply h_imm 5; (case h => assumption); (case e => with_unfolding_all rfl))))
local macro_rules | `(tactic| walk_at "ims") => `(tactic| repeat (first | apply Ims.nil | (apply Ims.cons; (focus (first | apply Im.int | apply Im.str | apply Im.bl | apply Im.non | assumption | (apply h_imm 0; (case h => assumption); (case e => with_unfolding_all rfl)) | (apply h_imm 1; (case h => assumption); (case e => with_unfolding_all rfl)) | (apply h_imm 2; (case h => assumption); (case e => with_unfolding_all rfl)) | (apply h_imm 3; (case h => assumption); (case e => with_unfolding_all rfl)) | (apply h_imm 4; (case h => assumption); (case e => with_unfolding_all rfl)) | (apply h_imm 5; (case h => assumption); (case e => with_unfolding_all rfl)))))))
local macro_rules | `(tactic| walk_at "sz") => `(tactic| (rw [sizeLine_eq]; ((try simp only [List.length_append, List.length_cons, List.length_nil, List.length_map, List.length_replicate, List.length_set, List.length_take, List.length_drop]) <;> omega)))
local macro_rules | `(tactic| walk_at "fr") => `(tactic| (first | assumption | (apply Or.inl; assumption) | (apply Or.inr; simp)))
local macro_rules | `(tactic| walk_at "ds") => `(tactic| dsimp only [a_lk0, a_lk1, a_lkS, a_V, a_vl, a_c, a_op, a_un, a_test, a_toB, a_tr, a_trB, a_trI, a_trN, a_and, a_or, a_not, a_andV, a_orV, a_notV, a_ifE, a_nil, a_cons, a_lst, a_tup, a_call, a_CB, a_BM, a_BM0, a_sl, a_part, a_partI, a_noPart, a_seq, a_next, a_brk, a_cont, a_asg, a_name, a_drop, a_ret, a_retN, a_if, a_aug, a_for, a_lc, a_jR1, a_jR2, a_jL, a_jT, a_rg1, a_rg2, a_gsub, a_yes, a_addI, a_addS, a_addR, a_iaddI, a_iaddS, a_sub, a_mulI, a_mulR, a_fdiv, a_mod, a_pow, a_shl, a_shr, a_lt, a_le, a_gt, a_ge, a_neg, a_EqI, a_EqS, a_EqB, a_EqNN, a_EqIN, a_EqNI, a_EqSN, a_EqNS, a_EqRR, a_EqRN, a_EqNR, a_NeI, a_NeS, a_NeB, a_NeNN, a_NeIN, a_NeNI, a_NeSN, a_NeNS, a_NeRR, a_NeRN, a_NeNR, a_isNN, a_isNI, a_isNS, a_isNB, a_isNR, a_notNN, a_notNI, a_notNS, a_notNB, a_notNR, a_intI, a_intB, a_abs, a_gnil, a_gcons, a_callS, a_raise0, a_tryAs, a_tryOnly, a_rev, a_jR3, wipe, List.set, List.nil_append, List.cons_append])
local macro_rules | `(tactic| walk_at "gs") => `(tactic| repeat (first | dsimp only [a_lk0, a_lk1, a_lkS, a_V, a_vl, a_c, a_op, a_un, a_test, a_toB, a_tr, a_trB, a_trI, a_trN, a_and, a_or, a_not, a_andV, a_orV, a_notV, a_ifE, a_nil, a_cons, a_lst, a_tup, a_call, a_CB, a_BM, a_BM0, a_sl, a_part, a_partI, a_noPart, a_seq, a_next, a_brk, a_cont, a_asg, a_name, a_drop, a_ret, a_retN, a_if, a_aug, a_for, a_lc, a_jR1, a_jR2, a_jL, a_jT, a_rg1, a_rg2, a_gsub, a_yes, a_addI, a_addS, a_addR, a_iaddI, a_iaddS, a_sub, a_mulI, a_mulR, a_fdiv, a_mod, a_pow, a_shl, a_shr, a_lt, a_le, a_gt, a_ge, a_neg, a_EqI, a_EqS, a_EqB, a_EqNN, a_EqIN, a_EqNI, a_EqSN, a_EqNS, a_EqRR, a_EqRN, a_EqNR, a_NeI, a_NeS, a_NeB, a_NeNN, a_NeIN, a_NeNI, a_NeSN, a_NeNS, a_NeRR, a_NeRN, a_NeNR, a_isNN, a_isNI, a_isNS, a_isNB, a_isNR, a_notNN, a_notNI, a_notNS, a_notNB, a_notNR, a_intI, a_intB, a_abs, a_gnil, a_gcons, a_callS, a_raise0, a_tryAs, a_tryOnly, a_rev, a_jR3, wipe, List.set, List.nil_append, List.cons_append] | with_reducible (first
  | (apply h_draw 0; (case h => assumption); (case e => with_unfolding_all rfl); (case e2 => with_unfolding_all rfl); (case h0 => (first | decide | omega)); (case h1 => (first | decide | omega)); (case h2 => (first | decide | omega)); (case hs => (first | assumption | (apply Or.inl; assumption) | (apply Or.inr; simp))))
  | (apply h_draw 1; (case h => assumption); (case e => with_unfolding_all rfl); (case e2 => with_unfolding_all rfl); (case h0 => (first | decide | omega)); (case h1 => (first | decide | omega)); (case h2 => (first | decide | omega)); (case hs => (first | assumption | (apply Or.inl; assumption) | (apply Or.inr; simp))))
  | (apply h_draw 2; (case h => assumption); (case e => with_unfolding_all rfl); (case e2 => with_unfolding_all rfl); (case h0 => (first | decide | omega)); (case h1 => (first | decide | omega)); (case h2 => (first | decide | omega)); (case hs => (first | assumption | (apply Or.inl; assumption) | (apply Or.inr; simp))))
  | (apply h_draw 3; (case h => assumption); (case e => with_unfolding_all rfl); (case e2 => with_unfolding_all rfl); (case h0 => (first | decide | omega)); (case h1 => (first | decide | omega)); (case h2 => (first | decide | omega)); (case hs => (first | assumption | (apply Or.inl; assumption) | (apply Or.inr; simp))))
  | (apply h_ixL 0; (case h => assumption); (case e => with_unfolding_all rfl); (case hx => with_unfolding_all rfl))
  | (apply h_ixL 1; (case h => assumption); (case e => with_unfolding_all rfl); (case hx => with_unfolding_all rfl))
  | (apply h_ixL 2; (case h => assumption); (case e => with_unfolding_all rfl); (case hx => with_unfolding_all rfl))
  | (apply h_ixL 3; (case h => assumption); (case e => with_unfolding_all rfl); (case hx => with_unfolding_all rfl))
  | (apply h_ixL 4; (case h => assumption); (case e => with_unfolding_all rfl); (case hx => with_unfolding_all rfl))
  | (apply h_ixTv; (case hd => (first | apply Im.int | apply Im.str | apply Im.bl | apply Im.non | assumption | (apply h_imm 0; (case h => assumption); (case e => with_unfolding_all rfl)) | (apply h_imm 1; (case h => assumption); (case e => with_unfolding_all rfl)) | (apply h_imm 2; (case h => assumption); (case e => with_unfolding_all rfl)) | (apply h_imm 3; (case h => assumption); (case e => with_unfolding_all rfl)) | (apply h_imm 4; (case h => assumption); (case e => with_unfolding_all rfl)) | (apply h_imm 5; (case h => assumption); (case e => with_unfolding_all rfl)))); (case h0 => (first | decide | omega)); (case hx => with_unfolding_all rfl); (case hv => with_unfolding_all rfl))
  | (apply h_slPre; (case h => assumption); (case hd => (first | apply Im.int | apply Im.str | apply Im.bl | apply Im.non | assumption | (apply h_imm 0; (case h => assumption); (case e => with_unfolding_all rfl)) | (apply h_imm 1; (case h => assumption); (case e => with_unfolding_all rfl)) | (apply h_imm 2; (case h => assumption); (case e => with_unfolding_all rfl)) | (apply h_imm 3; (case h => assumption); (case e => with_unfolding_all rfl)) | (apply h_imm 4; (case h => assumption); (case e => with_unfolding_all rfl)) | (apply h_imm 5; (case h => assumption); (case e => with_unfolding_all rfl)))); (case h0 => (first | decide | omega)))
  | (apply h_gtupV; (case h => (first | apply Im.int | apply Im.str | apply Im.bl | apply Im.non | assumption | (apply h_imm 0; (case h => assumption); (case e => with_unfolding_all rfl)) | (apply h_imm 1; (case h => assumption); (case e => with_unfolding_all rfl)) | (apply h_imm 2; (case h => assumption); (case e => with_unfolding_all rfl)) | (apply h_imm 3; (case h => assumption); (case e => with_unfolding_all rfl)) | (apply h_imm 4; (case h => assumption); (case e => with_unfolding_all rfl)) | (apply h_imm 5; (case h => assumption); (case e => with_unfolding_all rfl)))); (case hn => with_unfolding_all rfl); (case hv => with_unfolding_all rfl))
  | (apply h_isiB)
  | (apply h_eqr)
  | (apply iteT)
  | (apply h_nT)
  | (apply h_nF)
  | (apply iteF)
  | (apply h_brT)
  | (apply h_brF)
  | (apply h_brET)
  | (apply h_brEF)
  | (apply h_brNT)
  | (apply h_brNF)
  | (apply h_append 0; (case h => assumption); (case e => with_unfolding_all rfl); (case hs => (first | assumption | (apply Or.inl; assumption) | (apply Or.inr; simp))); (case z => (rw [sizeLine_eq]; ((try simp only [List.length_append, List.length_cons, List.length_nil, List.length_map, List.length_replicate, List.length_set, List.length_take, List.length_drop]) <;> omega))))
  | (apply h_append 1; (case h => assumption); (case e => with_unfolding_all rfl); (case hs => (first | assumption | (apply Or.inl; assumption) | (apply Or.inr; simp))); (case z => (rw [sizeLine_eq]; ((try simp only [List.length_append, List.length_cons, List.length_nil, List.length_map, List.length_replicate, List.length_set, List.length_take, List.length_drop]) <;> omega))))
  | (apply h_append 2; (case h => assumption); (case e => with_unfolding_all rfl); (case hs => (first | assumption | (apply Or.inl; assumption) | (apply Or.inr; simp))); (case z => (rw [sizeLine_eq]; ((try simp only [List.length_append, List.length_cons, List.length_nil, List.length_map, List.length_replicate, List.length_set, List.length_take, List.length_drop]) <;> omega))))
  | (apply h_append 3; (case h => assumption); (case e => with_unfolding_all rfl); (case hs => (first | assumption | (apply Or.inl; assumption) | (apply Or.inr; simp))); (case z => (rw [sizeLine_eq]; ((try simp only [List.length_append, List.length_cons, List.length_nil, List.length_map, List.length_replicate, List.length_set, List.length_take, List.length_drop]) <;> omega))))
  | (apply h_append 4; (case h => assumption); (case e => with_unfolding_all rfl); (case hs => (first | assumption | (apply Or.inl; assumption) | (apply Or.inr; simp))); (case z => (rw [sizeLine_eq]; ((try simp only [List.length_append, List.length_cons, List.length_nil, List.length_map, List.length_replicate, List.length_set, List.length_take, List.length_drop]) <;> omega))))
  | (apply h_appendD 0; (case h => assumption); (case e => with_unfolding_all rfl); (case hd => (first | apply Im.int | apply Im.str | apply Im.bl | apply Im.non | assumption | (apply h_imm 0; (case h => assumption); (case e => with_unfolding_all rfl)) | (apply h_imm 1; (case h => assumption); (case e => with_unfolding_all rfl)) | (apply h_imm 2; (case h => assumption); (case e => with_unfolding_all rfl)) | (apply h_imm 3; (case h => assumption); (case e => with_unfolding_all rfl)) | (apply h_imm 4; (case h => assumption); (case e => with_unfolding_all rfl)) | (apply h_imm 5; (case h => assumption); (case e => with_unfolding_all rfl)))); (case hs => (first | assumption | (apply Or.inl; assumption) | (apply Or.inr; simp))); (case z => (rw [sizeLine_eq]; ((try simp only [List.length_append, List.length_cons, List.length_nil, List.length_map, List.length_replicate, List.length_set, List.length_take, List.length_drop]) <;> omega))))
  | (apply h_appendD 1; (case h => assumption); (case e => with_unfolding_all rfl); (case hd => (first | apply Im.int | apply Im.str | apply Im.bl | apply Im.non | assumption | (apply h_imm 0; (case h => assumption); (case e => with_unfolding_all rfl)) | (apply h_imm 1; (case h => assumption); (case e => with_unfolding_all rfl)) | (apply h_imm 2; (case h => assumption); (case e => with_unfolding_all rfl)) | (apply h_imm 3; (case h => assumption); (case e => with_unfolding_all rfl)) | (apply h_imm 4; (case h => assumption); (case e => with_unfolding_all rfl)) | (apply h_imm 5; (case h => assumption); (case e => with_unfolding_all rfl)))); (case hs => (first | assumption | (apply Or.inl; assumption) | (apply Or.inr; simp))); (case z => (rw [sizeLine_eq]; ((try simp only [List.length_append, List.length_cons, List.length_nil, List.length_map, List.length_replicate, List.length_set, List.length_take, List.length_drop]) <;> omega))))
  | (apply h_appendD 2; (case h => assumption); (case e => with_unfolding_all rfl); (case hd => (first | apply Im.int | apply Im.str | apply Im.bl | apply Im.non | assumption | (apply h_imm 0; (case h => assumption); (case e => with_unfolding_all rfl)) | (apply h_imm 1; (case h => assumption); (case e => with_unfolding_all rfl)) | (apply h_imm 2; (case h => assumption); (case e => with_unfolding_all rfl)) | (apply h_imm 3; (case h => assumption); (case e => with_unfolding_all rfl)) | (apply h_imm 4; (case h => assumption); (case e => with_unfolding_all rfl)) | (apply h_imm 5; (case h => assumption); (case e => with_unfolding_all rfl)))); (case hs => (first | assumption | (apply Or.inl; assumption) | (apply Or.inr; simp))); (case z => (rw [sizeLine_eq]; ((try simp only [List.length_append, List.length_cons, List.length_nil, List.length_map, List.length_replicate, List.length_set, List.length_take, List.length_drop]) <;> omega))))
  | (apply h_appendD 3; (case h => assumption); (case e => with_unfolding_all rfl); (case hd => (first | apply Im.int | apply Im.str | apply Im.bl | apply Im.non | assumption | (apply h_imm 0; (case h => assumption); (case e => with_unfolding_all rfl)) | (apply h_imm 1; (case h => assumption); (case e => with_unfolding_all rfl)) | (apply h_imm 2; (case h => assumption); (case e => with_unfolding_all rfl)) | (apply h_imm 3; (case h => assumption); (case e => with_unfolding_all rfl)) | (apply h_imm 4; (case h => assumption); (case e => with_unfolding_all rfl)) | (apply h_imm 5; (case h => assumption); (case e => with_unfolding_all rfl)))); (case hs => (first | assumption | (apply Or.inl; assumption) | (apply Or.inr; simp))); (case z => (rw [sizeLine_eq]; ((try simp only [List.length_append, List.length_cons, List.length_nil, List.length_map, List.length_replicate, List.length_set, List.length_take, List.length_drop]) <;> omega))))
  | (apply h_appendD 4; (case h => assumption); (case e => with_unfolding_all rfl); (case hd => (first | apply Im.int | apply Im.str | apply Im.bl | apply Im.non | assumption | (apply h_imm 0; (case h => assumption); (case e => with_unfolding_all rfl)) | (apply h_imm 1; (case h => assumption); (case e => with_unfolding_all rfl)) | (apply h_imm 2; (case h => assumption); (case e => with_unfolding_all rfl)) | (apply h_imm 3; (case h => assumption); (case e => with_unfolding_all rfl)) | (apply h_imm 4; (case h => assumption); (case e => with_unfolding_all rfl)) | (apply h_imm 5; (case h => assumption); (case e => with_unfolding_all rfl)))); (case hs => (first | assumption | (apply Or.inl; assumption) | (apply Or.inr; simp))); (case z => (rw [sizeLine_eq]; ((try simp only [List.length_append, List.length_cons, List.length_nil, List.length_map, List.length_replicate, List.length_set, List.length_take, List.length_drop]) <;> omega))))
  | (apply h_tyL 0; (case h => assumption); (case e => with_unfolding_all rfl))
  | (apply h_tyL 1; (case h => assumption); (case e => with_unfolding_all rfl))
  | (apply h_tyL 2; (case h => assumption); (case e => with_unfolding_all rfl))
  | (apply h_tyL 3; (case h => assumption); (case e => with_unfolding_all rfl))
  | (apply h_tyL 4; (case h => assumption); (case e => with_unfolding_all rfl))
  | (apply h_tyD 0; (case h => assumption); (case e => with_unfolding_all rfl))
  | (apply h_tyD 1; (case h => assumption); (case e => with_unfolding_all rfl))
  | (apply h_tyD 2; (case h => assumption); (case e => with_unfolding_all rfl))
  | (apply h_tyD 3; (case h => assumption); (case e => with_unfolding_all rfl))
  | (apply h_tyD 4; (case h => assumption); (case e => with_unfolding_all rfl))
  | (apply h_tyS)
  | (apply h_lenL 0; (case h => assumption); (case e => with_unfolding_all rfl))
  | (apply h_lenL 1; (case h => assumption); (case e => with_unfolding_all rfl))
  | (apply h_lenL 2; (case h => assumption); (case e => with_unfolding_all rfl))
  | (apply h_lenL 3; (case h => assumption); (case e => with_unfolding_all rfl))
  | (apply h_lenL 4; (case h => assumption); (case e => with_unfolding_all rfl))
  | (apply h_lenD 0; (case h => assumption); (case e => with_unfolding_all rfl))
  | (apply h_lenD 1; (case h => assumption); (case e => with_unfolding_all rfl))
  | (apply h_lenD 2; (case h => assumption); (case e => with_unfolding_all rfl))
  | (apply h_lenD 3; (case h => assumption); (case e => with_unfolding_all rfl))
  | (apply h_lenD 4; (case h => assumption); (case e => with_unfolding_all rfl))
  | (apply h_setL 0; (case h => assumption); (case e => with_unfolding_all rfl); (case hs => (first | assumption | (apply Or.inl; assumption) | (apply Or.inr; simp))); (case hi => with_unfolding_all rfl))
  | (apply h_setL 1; (case h => assumption); (case e => with_unfolding_all rfl); (case hs => (first | assumption | (apply Or.inl; assumption) | (apply Or.inr; simp))); (case hi => with_unfolding_all rfl))
  | (apply h_setL 2; (case h => assumption); (case e => with_unfolding_all rfl); (case hs => (first | assumption | (apply Or.inl; assumption) | (apply Or.inr; simp))); (case hi => with_unfolding_all rfl))
  | (apply h_setL 3; (case h => assumption); (case e => with_unfolding_all rfl); (case hs => (first | assumption | (apply Or.inl; assumption) | (apply Or.inr; simp))); (case hi => with_unfolding_all rfl))
  | (apply h_setL 4; (case h => assumption); (case e => with_unfolding_all rfl); (case hs => (first | assumption | (apply Or.inl; assumption) | (apply Or.inr; simp))); (case hi => with_unfolding_all rfl))
  | (apply h_isLn 0; (case h => assumption); (case e => with_unfolding_all rfl))
  | (apply h_isLn 1; (case h => assumption); (case e => with_unfolding_all rfl))
  | (apply h_isLn 2; (case h => assumption); (case e => with_unfolding_all rfl))
  | (apply h_isLn 3; (case h => assumption); (case e => with_unfolding_all rfl))
  | (apply h_isLn 4; (case h => assumption); (case e => with_unfolding_all rfl))
  | (apply h_isLd 0; (case h => assumption); (case e => with_unfolding_all rfl))
  | (apply h_isLd 1; (case h => assumption); (case e => with_unfolding_all rfl))
  | (apply h_isLd 2; (case h => assumption); (case e => with_unfolding_all rfl))
  | (apply h_isLd 3; (case h => assumption); (case e => with_unfolding_all rfl))
  | (apply h_isLd 4; (case h => assumption); (case e => with_unfolding_all rfl))
  | (apply h_isT; (case h => (first | apply Im.int | apply Im.str | apply Im.bl | apply Im.non | assumption | (apply h_imm 0; (case h => assumption); (case e => with_unfolding_all rfl)) | (apply h_imm 1; (case h => assumption); (case e => with_unfolding_all rfl)) | (apply h_imm 2; (case h => assumption); (case e => with_unfolding_all rfl)) | (apply h_imm 3; (case h => assumption); (case e => with_unfolding_all rfl)) | (apply h_imm 4; (case h => assumption); (case e => with_unfolding_all rfl)) | (apply h_imm 5; (case h => assumption); (case e => with_unfolding_all rfl)))))
  | (apply h_tupOf 0; (case h => assumption); (case e => with_unfolding_all rfl))
  | (apply h_tupOf 1; (case h => assumption); (case e => with_unfolding_all rfl))
  | (apply h_tupOf 2; (case h => assumption); (case e => with_unfolding_all rfl))
  | (apply h_tupOf 3; (case h => assumption); (case e => with_unfolding_all rfl))
  | (apply h_tupOf 4; (case h => assumption); (case e => with_unfolding_all rfl))
  | (apply h_listOf 0; (case h => assumption); (case e => with_unfolding_all rfl))
  | (apply h_listOf 1; (case h => assumption); (case e => with_unfolding_all rfl))
  | (apply h_listOf 2; (case h => assumption); (case e => with_unfolding_all rfl))
  | (apply h_listOf 3; (case h => assumption); (case e => with_unfolding_all rfl))
  | (apply h_listOf 4; (case h => assumption); (case e => with_unfolding_all rfl))
  | (apply h_lst; (case h => assumption); (case z => (rw [sizeLine_eq]; ((try simp only [List.length_append, List.length_cons, List.length_nil, List.length_map, List.length_replicate, List.length_set, List.length_take, List.length_drop]) <;> omega))))
  | (apply h_tup; (case h => assumption); (case z => (rw [sizeLine_eq]; ((try simp only [List.length_append, List.length_cons, List.length_nil, List.length_map, List.length_replicate, List.length_set, List.length_take, List.length_drop]) <;> omega))); (case hd => repeat (first | apply Ims.nil | (apply Ims.cons; (focus (first | apply Im.int | apply Im.str | apply Im.bl | apply Im.non | assumption | (apply h_imm 0; (case h => assumption); (case e => with_unfolding_all rfl)) | (apply h_imm 1; (case h => assumption); (case e => with_unfolding_all rfl)) | (apply h_imm 2; (case h => assumption); (case e => with_unfolding_all rfl)) | (apply h_imm 3; (case h => assumption); (case e => with_unfolding_all rfl)) | (apply h_imm 4; (case h => assumption); (case e => with_unfolding_all rfl)) | (apply h_imm 5; (case h => assumption); (case e => with_unfolding_all rfl))))))))
  | (apply And.intro; (case left => (first | decide | omega)))
  | (apply h_mr; (case h1 => (first | decide | omega)); (case h2 => (first | decide | omega)))
  | (apply h_ml; (case h1 => (first | decide | omega)); (case h2 => (first | decide | omega)))
  | (apply h_dv; (case h1 => (first | decide | omega)); (case h2 => (first | decide | omega)))
  | (apply h_pw; (case h1 => (first | decide | omega)); (case h2 => (first | decide | omega)); (case h3 => decide))
  | (apply And.intro; (case left => (rw [sizeLine_eq]; ((try simp only [List.length_append, List.length_cons, List.length_nil, List.length_map, List.length_replicate, List.length_set, List.length_take, List.length_drop]) <;> omega))))
  | (apply h_wnum 0; (case h => assumption); (case e => with_unfolding_all rfl); (case h0 => (first | decide | omega)); (case h1 => (first | decide | omega)); (case h2 => (first | decide | omega)); (case h3 => (first | decide | omega)))
  | (apply h_wnum 1; (case h => assumption); (case e => with_unfolding_all rfl); (case h0 => (first | decide | omega)); (case h1 => (first | decide | omega)); (case h2 => (first | decide | omega)); (case h3 => (first | decide | omega)))
  | (apply h_wnum 2; (case h => assumption); (case e => with_unfolding_all rfl); (case h0 => (first | decide | omega)); (case h1 => (first | decide | omega)); (case h2 => (first | decide | omega)); (case h3 => (first | decide | omega)))
  | (apply h_rdword 0; (case h => assumption); (case e => with_unfolding_all rfl); (case h0 => (first | decide | omega)); (case h1 => (first | decide | omega)); (case h2 => (first | decide | omega)); (case h3 => (first | decide | omega)))
  | (apply h_rdword 1; (case h => assumption); (case e => with_unfolding_all rfl); (case h0 => (first | decide | omega)); (case h1 => (first | decide | omega)); (case h2 => (first | decide | omega)); (case h3 => (first | decide | omega)))
  | (apply h_rdword 2; (case h => assumption); (case e => with_unfolding_all rfl); (case h0 => (first | decide | omega)); (case h1 => (first | decide | omega)); (case h2 => (first | decide | omega)); (case h3 => (first | decide | omega)))
  | (apply h_rslot 0; (case h => assumption); (case e => with_unfolding_all rfl); (case h0 => (first | decide | omega)); (case h1 => (first | decide | omega)); (case h2 => (first | decide | omega)); (case h3 => (first | decide | omega)); (case h4 => (first | decide | omega)); (case h5 => (first | decide | omega)); (case h6 => (first | decide | omega)); (case h7 => (first | decide | omega)))
  | (apply h_rslot 1; (case h => assumption); (case e => with_unfolding_all rfl); (case h0 => (first | decide | omega)); (case h1 => (first | decide | omega)); (case h2 => (first | decide | omega)); (case h3 => (first | decide | omega)); (case h4 => (first | decide | omega)); (case h5 => (first | decide | omega)); (case h6 => (first | decide | omega)); (case h7 => (first | decide | omega)))
  | (apply h_rslot 2; (case h => assumption); (case e => with_unfolding_all rfl); (case h0 => (first | decide | omega)); (case h1 => (first | decide | omega)); (case h2 => (first | decide | omega)); (case h3 => (first | decide | omega)); (case h4 => (first | decide | omega)); (case h5 => (first | decide | omega)); (case h6 => (first | decide | omega)); (case h7 => (first | decide | omega)))
  | (apply h_put 0; (case h => assumption); (case e => with_unfolding_all rfl); (case h0 => (first | decide | omega)); (case h1 => (first | decide | omega)); (case h2 => (first | decide | omega)); (case h3 => (first | decide | omega)); (case hs => (first | assumption | (apply Or.inl; assumption) | (apply Or.inr; simp))))
  | (apply h_put 1; (case h => assumption); (case e => with_unfolding_all rfl); (case h0 => (first | decide | omega)); (case h1 => (first | decide | omega)); (case h2 => (first | decide | omega)); (case h3 => (first | decide | omega)); (case hs => (first | assumption | (apply Or.inl; assumption) | (apply Or.inr; simp))))
  | (apply h_put 2; (case h => assumption); (case e => with_unfolding_all rfl); (case h0 => (first | decide | omega)); (case h1 => (first | decide | omega)); (case h2 => (first | decide | omega)); (case h3 => (first | decide | omega)); (case hs => (first | assumption | (apply Or.inl; assumption) | (apply Or.inr; simp))))
  | (apply h_wrword 0; (case h => assumption); (case e => with_unfolding_all rfl); (case h0 => (first | decide | omega)); (case h1 => (first | decide | omega)); (case h2 => (first | decide | omega)); (case h3 => (first | decide | omega)); (case hs => (first | assumption | (apply Or.inl; assumption) | (apply Or.inr; simp))))
  | (apply h_wrword 1; (case h => assumption); (case e => with_unfolding_all rfl); (case h0 => (first | decide | omega)); (case h1 => (first | decide | omega)); (case h2 => (first | decide | omega)); (case h3 => (first | decide | omega)); (case hs => (first | assumption | (apply Or.inl; assumption) | (apply Or.inr; simp))))
  | (apply h_wrword 2; (case h => assumption); (case e => with_unfolding_all rfl); (case h0 => (first | decide | omega)); (case h1 => (first | decide | omega)); (case h2 => (first | decide | omega)); (case h3 => (first | decide | omega)); (case hs => (first | assumption | (apply Or.inl; assumption) | (apply Or.inr; simp))))
  | (apply h_power; (case h0 => (first | decide | omega)); (case h1 => (first | decide | omega)))
  | (apply h_bounds; (case h => assumption); (case h0 => (first | decide | omega)); (case h1 => (first | decide | omega)))) | with_reducible intro))

theorem wn_next {ds : List Int} {o n i : Nat} {big : Bool} (h : o + n ≤ ds.length) (hi : i < n) : vn 256 ((ord big (seg ds o n)).drop (n - (i + 1))) = vn 256 ((ord big (seg ds o n)).drop (n - i)) * 256 + ds.getD (o + if big = true then i else n - 1 - i) 0 := by
  have hl : (ord big (seg ds o n)).length = n := by rw [ord_len, seg_len h]
  have hj : n - (i + 1) < (ord big (seg ds o n)).length := by omega
  rw [List.drop_eq_getElem_cons hj, vn, show n - (i + 1) + 1 = n - i by omega]
  have e : (ord big (seg ds o n))[n - (i + 1)] = (ord big (seg ds o n)).getD (n - (i + 1)) 0 := by rw [List.getD_eq_getElem?_getD, List.getElem?_eq_getElem hj]; rfl
  rw [e, ord_get (by rw [seg_len h]; omega), seg_len h]
  cases big
  · simp only [Bool.false_eq_true, if_false]
    rw [seg_get (by omega), show n - (i + 1) = n - 1 - i by omega]
    omega
  · simp only [if_true]
    rw [show n - 1 - (n - (i + 1)) = i by omega, seg_get hi]
    omega
theorem pw_next {ds : List Int} {o n i : Nat} {big : Bool} {z : Int} (h : o + n ≤ ds.length) (hi : i < n) : (putSeg ds o (ord big (dg 256 i z ++ (ord big (seg ds o n)).drop i))).set (o + if big = true then n - 1 - i else i) (z / 256 ^ i % 256) = putSeg ds o (ord big (dg 256 (i + 1) z ++ (ord big (seg ds o n)).drop (i + 1))) := by
  have hl : (dg 256 i z ++ (ord big (seg ds o n)).drop i).length = n := by rw [List.length_append, dg_len, List.length_drop, ord_len, seg_len h]; omega
  rw [putSeg_set (by rw [ord_len, hl]; exact h) (by rw [ord_len, hl]; split <;> omega)]
  have e := ord_set (big := big) (l := dg 256 i z ++ (ord big (seg ds o n)).drop i) (i := i) (z := z / 256 ^ i % 256) (by omega)
  rw [hl] at e
  rw [e, List.set_append_right i _ (by rw [dg_len]; exact Nat.le_refl _), dg_len, Nat.sub_self, dg_snoc (by decide), List.append_assoc]
  have hj : i < (ord big (seg ds o n)).length := by rw [ord_len, seg_len h]; exact hi
  rw [List.drop_eq_getElem_cons hj, List.set_cons_zero]
  rfl
def t_power (K : PySem.W.Frag) (A : Ad) : TS :=
  (tSeq (tAsg (tC (.int 1)) (gName 1))
  (tSeq (tFor (jR1 (tCons (mV 0) tNil)) (gName 2)
    (tAsg (tOp mMul (mV 1) (tC (.int 2))) (gName 1)))
  (tRet (mV 1))))
theorem rd_power {K : PySem.W.Frag} {A : Ad} {vs : List V} {H : Hp} {Q : VK} {E : XK} (h : sp_power K A vs H Q E) : t_power K A { nx := fun _ H' => Q .non H', rt := Q } (start ["exponent", "number", "_"] vs) H := by
  obtain ⟨n, rfl, h0, h1, k⟩ := h
  show t_power K A _ [some (.int n), none, none] H
  unfold t_power
  walk_at "gs"
  refine lpR (fun i σ H1 => H1 = H ∧ ∃ y : Option V, σ = [some (.int n), some (.int (2 ^ i)), y]) ⟨rfl, none, rfl⟩ ?_ ?_
  · rintro i σ H1 hi ⟨rfl, y, rfl⟩
    walk_at "gs"
    exact ⟨_, by rw [Int.pow_succ]⟩
  · rintro σ H1 ⟨rfl, y, rfl⟩
    walk_at "gs"
    exact k
def t_bounds (K : PySem.W.Frag) (A : Ad) : TS :=
  (tSeq (mIf (mTr K (mV 1))
    (tRet (tTup (tCons (tOp mSub (tC (.int 0)) (tCall (sp_power K A) [] E0 (tCons (tOp mSub (mV 0) (tC (.int 1))) tNil))) (tCons (tOp mSub (tCall (sp_power K A) [] E0 (tCons (tOp mSub (mV 0) (tC (.int 1))) tNil)) (tC (.int 1))) tNil))))
    tNext)
  (tRet (tTup (tCons (tC (.int 0)) (tCons (tOp mSub (tCall (sp_power K A) [] E0 (tCons (mV 0) tNil)) (tC (.int 1))) tNil)))))
theorem rd_bounds {K : PySem.W.Frag} {A : Ad} {vs : List V} {H : Hp} {Q : VK} {E : XK} (h : sp_bounds K A vs H Q E) : t_bounds K A { nx := fun _ H' => Q .non H', rt := Q } (start ["width", "signed"] vs) H := by
  obtain ⟨w, s, rfl, h0, h1, k⟩ := h
  show t_bounds K A _ [some (.int w), some (.bl s)] H
  unfold t_bounds
  have hL : Led K H [] H [] [] := Led.start
  have e : (w - 1).toNat = w.toNat - 1 := by omega
  cases s
  · walk_at "gs"
    rename_i p H1 h2
    exact k p H1 (KBs.same h2.kp) (h2.im 0 _ _ rfl)
  · walk_at "gs"
    rename_i p H1 h2
    rw [e] at h2
    exact k p H1 (KBs.same h2.kp) (h2.im 0 _ _ rfl)
def t_word_number (K : PySem.W.Frag) (A : Ad) : TS :=
  (tSeq (tAsg (tC (.int 0)) (gName 4))
  (tSeq (tFor (jR1 (tCons (mV 2) tNil)) (gName 5)
    (tSeq (tAsg (tOp (rIx K) (mV 0) (tOp (mAdd K) (mV 1) (mIfE (mTr K (mV 3)) (mV 5) (tOp mSub (tOp mSub (mV 2) (tC (.int 1))) (mV 5))))) (gName 6))
  (tAsg (tOp (mAdd K) (tOp mMul (mV 4) (tC (.int 256))) (mV 6)) (gName 4))))
  (tRet (mV 4))))
theorem rd_word_number {K : PySem.W.Frag} {A : Ad} {vs : List V} {H : Hp} {Q : VK} {E : XK} (h : sp_word_number K A vs H Q E) : t_word_number K A { nx := fun _ H' => Q .non H', rt := Q } (start ["data", "offset", "size", "big", "number", "at", "byte"] vs) H := by
  obtain ⟨a, ds, o, n, big, rfl, hS, h0, h1, h2, h3, k⟩ := h
  show t_word_number K A _ [some (.ref a), some (.int o), some (.int n), some (.bl big), none, none, none] H
  unfold t_word_number
  have hz : o.toNat + n.toNat ≤ ds.length := by omega
  walk_at "gs"
  refine lpR (fun i σ H1 => H1 = H ∧ ∃ y5 y6 : Option V, σ = [some (.ref a), some (.int o), some (.int n), some (.bl big), some (.int (vn 256 ((ord big (seg ds o.toNat n.toNat)).drop (n.toNat - i)))), y5, y6])
    ⟨rfl, none, none, by rw [Nat.sub_zero, List.drop_eq_nil_of_le (by rw [ord_len, seg_len hz]; exact Nat.le_refl _)]; rfl⟩ ?_ ?_
  · rintro i σ H1 hi ⟨rfl, y5, y6, rfl⟩
    have nx := wn_next (big := big) hz hi
    walk_at "gs"
    cases big
    · walk_at "gs"
      refine h_ixQ hS (at_ints (by omega) (by omega)) ?_
      walk_at "gs"
      simp only [Bool.false_eq_true, if_false] at nx
      exact ⟨_, _, by rw [nx, show (o + (n - 1 - (0 + (i : Int)))).toNat = o.toNat + (n.toNat - 1 - i) by omega]⟩
    · walk_at "gs"
      refine h_ixQ hS (at_ints (by omega) (by omega)) ?_
      walk_at "gs"
      simp only [if_true] at nx
      exact ⟨_, _, by rw [nx, show (o + (0 + (i : Int))).toNat = o.toNat + i by omega]⟩
  · rintro σ H1 ⟨rfl, y5, y6, rfl⟩
    rw [Nat.sub_self, List.drop_zero]
    walk_at "gs"
    exact k
def t_put_word_number (K : PySem.W.Frag) (A : Ad) : TS :=
  (tFor (jR1 (tCons (mV 2) tNil)) (gName 5)
    (tSeq (tAsg (tOp mMod (mV 4) (tC (.int 256))) (gSub (mV 0) (tOp (mAdd K) (mV 1) (mIfE (mTr K (mV 3)) (tOp mSub (tOp mSub (mV 2) (tC (.int 1))) (mV 5)) (mV 5))) rSetL))
  (tAsg (tOp mFdiv (mV 4) (tC (.int 256))) (gName 4))))
theorem rd_put_word_number {K : PySem.W.Frag} {A : Ad} {vs : List V} {H : Hp} {Q : VK} {E : XK} (h : sp_put_word_number K A vs H Q E) : t_put_word_number K A { nx := fun _ H' => Q .non H', rt := Q } (start ["data", "offset", "size", "big", "number", "at"] vs) H := by
  obtain ⟨a, ds, o, n, big, z, rfl, ha, h0, h1, h2, h3, k⟩ := h
  show t_put_word_number K A _ [some (.ref a), some (.int o), some (.int n), some (.bl big), some (.int z), none] H
  unfold t_put_word_number
  have hz : o.toNat + n.toNat ≤ ds.length := by omega
  have hL : Led K H [a] H [(a, .raw (.lst (ds.map V.int)))] [] := Led.mk1 ha
  have hl : ∀ i : Nat, i ≤ n.toNat → (ord big (dg 256 i z ++ (ord big (seg ds o.toNat n.toNat)).drop i)).length = n.toNat := fun i hi => by rw [ord_len, List.length_append, dg_len, List.length_drop, ord_len, seg_len hz]; omega
  walk_at "gs"
  refine lpR (fun i σ H1 => ∃ y : Option V, σ = [some (.ref a), some (.int o), some (.int n), some (.bl big), some (.int (z / 256 ^ i)), y] ∧
      Led K H [a] H1 [(a, .raw (.lst ((putSeg ds o.toNat (ord big (dg 256 i z ++ (ord big (seg ds o.toNat n.toNat)).drop i))).map V.int)))] [])
    ⟨none, by rw [Int.pow_zero, Int.ediv_one], by rw [List.drop_zero]; show Led K H [a] H [(a, .raw (.lst ((putSeg ds o.toNat (ord big (ord big (seg ds o.toNat n.toNat)))).map V.int)))] []; rw [ord_ord, putSeg_seg hz]; exact hL⟩ ?_ ?_
  · rintro i σ H1 hi ⟨y, rfl, hl1⟩
    have nx := pw_next (big := big) (z := z) hz hi
    have hlen : (putSeg ds o.toNat (ord big (dg 256 i z ++ (ord big (seg ds o.toNat n.toNat)).drop i))).length = ds.length := putSeg_len (by rw [hl i (by omega)]; exact hz)
    have e : z / 256 ^ i / 256 = z / 256 ^ (i + 1) := by rw [Int.ediv_ediv_of_nonneg (Int.le_of_lt (Int.pow_pos (by decide))), Int.pow_succ]
    walk_at "gs"
    cases big
    · walk_at "gs"
      refine h_setI 0 hl1 rfl (.inr (by simp)) (by omega) (by omega) fun H2 h2 => ?_
      rw [show (o + (0 + (i : Int))).toNat = o.toNat + i by omega] at h2
      walk_at "gs"
      rw [e]
      refine ⟨_, rfl, ?_⟩
      rw [← nx]
      exact h2
    · walk_at "gs"
      refine h_setI 0 hl1 rfl (.inr (by simp)) (by omega) (by omega) fun H2 h2 => ?_
      rw [show (o + (n - 1 - (0 + (i : Int)))).toNat = o.toNat + (n.toNat - 1 - i) by omega] at h2
      walk_at "gs"
      rw [e]
      refine ⟨_, rfl, ?_⟩
      rw [← nx]
      exact h2
  · rintro σ H1 ⟨y, rfl, h4⟩
    rw [List.drop_eq_nil_of_le (by rw [ord_len, seg_len hz]; exact Nat.le_refl _), List.append_nil] at h4
    exact k H1 h4.kp (h4.raw 0 rfl)
def t_read_slot (K : PySem.W.Frag) (A : Ad) : TS :=
  (tSeq (tAsg (tOp mMod (tOp mFdiv (tCall (sp_word_number K A) [] E0 (tCons (mV 0) (tCons (mV 1) (tCons (mV 2) (tCons (mV 3) tNil))))) (tCall (sp_power K A) [] E0 (tCons (mV 4) tNil))) (tCall (sp_power K A) [] E0 (tCons (mV 5) tNil))) (gName 7))
  (tSeq (mIf (tAnd (mTr K (mV 6)) (mTest (tOp mGe (mV 7) (tCall (sp_power K A) [] E0 (tCons (tOp mSub (mV 5) (tC (.int 1))) tNil)))))
    (tRet (tOp mSub (mV 7) (tCall (sp_power K A) [] E0 (tCons (mV 5) tNil))))
    tNext)
  (tRet (mV 7))))
theorem rd_read_slot {K : PySem.W.Frag} {A : Ad} {vs : List V} {H : Hp} {Q : VK} {E : XK} (h : sp_read_slot K A vs H Q E) : t_read_slot K A { nx := fun _ H' => Q .non H', rt := Q } (start ["data", "offset", "size", "big", "first", "width", "signed", "number"] vs) H := by
  obtain ⟨a, ds, o, n, big, f, w, s, rfl, hS, h0, h1, h2, h3, h4, h5, h6, h7, k⟩ := h
  show t_read_slot K A _ [some (.ref a), some (.int o), some (.int n), some (.bl big), some (.int f), some (.int w), some (.bl s), none] H
  unfold t_read_slot
  have e : (w - 1).toNat = w.toNat - 1 := by omega
  have pf := p2_pos f.toNat
  have pw := p2_pos w.toNat
  have pf2 : (2 : Int) ^ f.toNat ≤ 2 ^ 63 := p2_le (by omega)
  walk_at "gs"
  refine ⟨a, ds, o, n, big, rfl, hS, h0, h1, h2, h3, ?_⟩
  walk_at "gs"
  unfold rslot sgn at k
  refine h_itb (fun hs => ?_) (fun hs => ?_)
  · subst hs
    walk_at "gs"
    refine h_br (fun hc => ?_) (fun hc => ?_)
    · rw [e] at hc
      rw [if_pos ⟨rfl, hc⟩] at k
      walk_at "gs"
      exact k
    · rw [e] at hc
      rw [if_neg (fun z => hc z.2)] at k
      walk_at "gs"
      exact k
  · subst hs
    rw [if_neg (fun z => Bool.false_ne_true z.1)] at k
    walk_at "gs"
    exact k
def t_write_slot (K : PySem.W.Frag) (A : Ad) (W : WX) : TS :=
  (tSeq (tAsg (tCall (sp_bounds K A) [] E0 (tCons (mV 5) (tCons (mV 6) tNil))) (gTup K 2 (mGc (gName 8) (mGc (gName 9) mGn))))
  (tSeq (mIf (tOr (mTest (tOp mLt (mV 7) (mV 8))) (mTest (tOp mGt (mV 7) (mV 9))))
    (mRaise0 A.c_OutOfRange W)
    tNext)
  (tSeq (tAsg (tCall (sp_word_number K A) [] E0 (tCons (mV 0) (tCons (mV 1) (tCons (mV 2) (tCons (mV 3) tNil))))) (gName 10))
  (tSeq (tAsg (tOp mMod (tOp mFdiv (mV 10) (tCall (sp_power K A) [] E0 (tCons (mV 4) tNil))) (tCall (sp_power K A) [] E0 (tCons (mV 5) tNil))) (gName 11))
  (tSeq (tAsg (tOp mMod (mV 7) (tCall (sp_power K A) [] E0 (tCons (mV 5) tNil))) (gName 12))
  (tDrop (tCall (sp_put_word_number K A) [] E0 (tCons (mV 0) (tCons (mV 1) (tCons (mV 2) (tCons (mV 3) (tCons (tOp (mAdd K) (mV 10) (tOp mMul (tOp mSub (mV 12) (mV 11)) (tCall (sp_power K A) [] E0 (tCons (mV 4) tNil)))) tNil))))))))))))
theorem rd_write_slot {K : PySem.W.Frag} {A : Ad} {vs : List V} {H : Hp} {Q : VK} {E : XK} (h : sp_write_slot K A vs H Q E) : t_write_slot K A (fun cls d _ H => E cls d H) { nx := fun _ H' => Q .non H', rt := Q } (start ["data", "offset", "size", "big", "first", "width", "signed", "value", "least", "most", "number", "old", "new"] vs) H := by
  obtain ⟨a, ds, o, n, big, f, w, s, v, rfl, ha, h0, h1, h2, h3, h4, h5, h6, h7, kx, k⟩ := h
  show t_write_slot K A _ _ [some (.ref a), some (.int o), some (.int n), some (.bl big), some (.int f), some (.int w), some (.bl s), some (.int v), none, none, none, none, none] H
  unfold t_write_slot
  have hL : Led K H [a] H [(a, .raw (.lst (ds.map V.int)))] [] := Led.mk1 ha
  have e : (w - 1).toNat = w.toNat - 1 := by omega
  have pf := p2_pos f.toNat
  have pw := p2_pos w.toNat
  have pf2 : (2 : Int) ^ f.toNat ≤ 2 ^ 63 := p2_le (by omega)
  have pw2 : (2 : Int) ^ w.toNat ≤ 2 ^ 63 := p2_le (by omega)
  walk_at "gs"
  rename_i p H1 hp1
  have s1 : Same H H1 := fun b u hb => by
    rcases Classical.em (b = a) with z | z
    · subst z
      rw [hb] at ha
      cases ha
      exact hp1.raw 0 rfl
    · exact hp1.kp b u hb (by simpa using z)
  have raise : (v < lo w.toNat s ∨ hi w.toNat s < v) → E (.ref A.c_OutOfRange) none H1 := fun q => kx q H1 s1
  refine h_ite (fun hc => ?_) (fun hc => ?_)
  · walk_at "gs"
    exact raise (.inl hc)
  · walk_at "gs"
    refine h_br (fun hc2 => ?_) (fun hc2 => ?_)
    · walk_at "gs"
      exact raise (.inr hc2)
    · clear hL
      walk_at "gs"
      have b1 := Int.emod_nonneg v (show (2 : Int) ^ w.toNat ≠ 0 by omega)
      have b2 := Int.emod_lt_of_pos v pw
      have b3 := Int.emod_nonneg (wnum ds o.toNat n.toNat big / 2 ^ f.toNat) (show (2 : Int) ^ w.toNat ≠ 0 by omega)
      have b4 := Int.emod_lt_of_pos (wnum ds o.toNat n.toNat big / 2 ^ f.toNat) pw
      walk_at "gs"
      rename_i H2 h8
      exact k (by omega) (by omega) H2 h8.kp (h8.raw 0 rfl)
def t_read_word (K : PySem.W.Frag) (A : Ad) : TS :=
  (tRet (tCall (sp_word_number K A) [] E0 (tCons (mV 0) (tCons (mV 1) (tCons (mV 2) (tCons (tC (.bl false)) tNil))))))
theorem rd_read_word {K : PySem.W.Frag} {A : Ad} {vs : List V} {H : Hp} {Q : VK} {E : XK} (h : sp_read_word K A vs H Q E) : t_read_word K A { nx := fun _ H' => Q .non H', rt := Q } (start ["data", "offset", "size"] vs) H := by
  obtain ⟨a, ds, o, n, rfl, hS, h0, h1, h2, h3, k⟩ := h
  show t_read_word K A _ [some (.ref a), some (.int o), some (.int n)] H
  unfold t_read_word
  walk_at "gs"
  exact ⟨a, ds, o, n, false, rfl, hS, h0, h1, h2, h3, k⟩
def t_write_word (K : PySem.W.Frag) (A : Ad) : TS :=
  (tDrop (tCall (sp_put_word_number K A) [] E0 (tCons (mV 0) (tCons (mV 1) (tCons (mV 2) (tCons (tC (.bl false)) (tCons (mV 3) tNil)))))))
theorem rd_write_word {K : PySem.W.Frag} {A : Ad} {vs : List V} {H : Hp} {Q : VK} {E : XK} (h : sp_write_word K A vs H Q E) : t_write_word K A { nx := fun _ H' => Q .non H', rt := Q } (start ["data", "offset", "size", "value"] vs) H := by
  obtain ⟨a, ds, o, n, z, rfl, ha, h0, h1, h2, h3, k⟩ := h
  show t_write_word K A _ [some (.ref a), some (.int o), some (.int n), some (.int z)] H
  unfold t_write_word
  walk_at "gs"
  refine ⟨a, ds, o, n, false, z, rfl, ha, h0, h1, h2, h3, fun H1 kb h1 => ?_⟩
  walk_at "gs"
  exact k H1 kb h1

/-! the fields of Work -/
def Wk_L (v0 v1 v2 v3 v4 v5 v6 v7 v8 : V) : List (Str × V) := [("kind", v0), ("source", v1), ("target", v2), ("value", v3), ("done", v4), ("source_bytes", v5), ("target_bytes", v6), ("result", v7), ("new", v8)]
section
variable {v0 v1 v2 v3 v4 v5 v6 v7 v8 y : V}
theorem Wk_kind : List.lookup ("kind" : Str) (Wk_L v0 v1 v2 v3 v4 v5 v6 v7 v8) = some v0 := lk_here
theorem Wk_source : List.lookup ("source" : Str) (Wk_L v0 v1 v2 v3 v4 v5 v6 v7 v8) = some v1 := ((lk_past (by decide +kernel)).trans lk_here)
theorem Wk_target : List.lookup ("target" : Str) (Wk_L v0 v1 v2 v3 v4 v5 v6 v7 v8) = some v2 := ((lk_past (by decide +kernel)).trans ((lk_past (by decide +kernel)).trans lk_here))
theorem Wk_value : List.lookup ("value" : Str) (Wk_L v0 v1 v2 v3 v4 v5 v6 v7 v8) = some v3 := ((lk_past (by decide +kernel)).trans ((lk_past (by decide +kernel)).trans ((lk_past (by decide +kernel)).trans lk_here)))
theorem Wk_done : List.lookup ("done" : Str) (Wk_L v0 v1 v2 v3 v4 v5 v6 v7 v8) = some v4 := ((lk_past (by decide +kernel)).trans ((lk_past (by decide +kernel)).trans ((lk_past (by decide +kernel)).trans ((lk_past (by decide +kernel)).trans lk_here))))
theorem Wk_source_bytes : List.lookup ("source_bytes" : Str) (Wk_L v0 v1 v2 v3 v4 v5 v6 v7 v8) = some v5 := ((lk_past (by decide +kernel)).trans ((lk_past (by decide +kernel)).trans ((lk_past (by decide +kernel)).trans ((lk_past (by decide +kernel)).trans ((lk_past (by decide +kernel)).trans lk_here)))))
theorem Wk_target_bytes : List.lookup ("target_bytes" : Str) (Wk_L v0 v1 v2 v3 v4 v5 v6 v7 v8) = some v6 := ((lk_past (by decide +kernel)).trans ((lk_past (by decide +kernel)).trans ((lk_past (by decide +kernel)).trans ((lk_past (by decide +kernel)).trans ((lk_past (by decide +kernel)).trans ((lk_past (by decide +kernel)).trans lk_here))))))
theorem Wk_result : List.lookup ("result" : Str) (Wk_L v0 v1 v2 v3 v4 v5 v6 v7 v8) = some v7 := ((lk_past (by decide +kernel)).trans ((lk_past (by decide +kernel)).trans ((lk_past (by decide +kernel)).trans ((lk_past (by decide +kernel)).trans ((lk_past (by decide +kernel)).trans ((lk_past (by decide +kernel)).trans ((lk_past (by decide +kernel)).trans lk_here)))))))
theorem Wk_new : List.lookup ("new" : Str) (Wk_L v0 v1 v2 v3 v4 v5 v6 v7 v8) = some v8 := ((lk_past (by decide +kernel)).trans ((lk_past (by decide +kernel)).trans ((lk_past (by decide +kernel)).trans ((lk_past (by decide +kernel)).trans ((lk_past (by decide +kernel)).trans ((lk_past (by decide +kernel)).trans ((lk_past (by decide +kernel)).trans ((lk_past (by decide +kernel)).trans lk_here))))))))
theorem Wk_no___init__ : List.lookup ("__init__" : Str) (Wk_L v0 v1 v2 v3 v4 v5 v6 v7 v8) = none := ((lk_past (by decide +kernel)).trans ((lk_past (by decide +kernel)).trans ((lk_past (by decide +kernel)).trans ((lk_past (by decide +kernel)).trans ((lk_past (by decide +kernel)).trans ((lk_past (by decide +kernel)).trans ((lk_past (by decide +kernel)).trans ((lk_past (by decide +kernel)).trans ((lk_past (by decide +kernel)).trans rfl)))))))))
theorem Wk_no_written : List.lookup ("written" : Str) (Wk_L v0 v1 v2 v3 v4 v5 v6 v7 v8) = none := ((lk_past (by decide +kernel)).trans ((lk_past (by decide +kernel)).trans ((lk_past (by decide +kernel)).trans ((lk_past (by decide +kernel)).trans ((lk_past (by decide +kernel)).trans ((lk_past (by decide +kernel)).trans ((lk_past (by decide +kernel)).trans ((lk_past (by decide +kernel)).trans ((lk_past (by decide +kernel)).trans rfl)))))))))
theorem Wk_no_source_reads : List.lookup ("source_reads" : Str) (Wk_L v0 v1 v2 v3 v4 v5 v6 v7 v8) = none := ((lk_past (by decide +kernel)).trans ((lk_past (by decide +kernel)).trans ((lk_past (by decide +kernel)).trans ((lk_past (by decide +kernel)).trans ((lk_past (by decide +kernel)).trans ((lk_past (by decide +kernel)).trans ((lk_past (by decide +kernel)).trans ((lk_past (by decide +kernel)).trans ((lk_past (by decide +kernel)).trans rfl)))))))))
theorem Wk_no_target_reads : List.lookup ("target_reads" : Str) (Wk_L v0 v1 v2 v3 v4 v5 v6 v7 v8) = none := ((lk_past (by decide +kernel)).trans ((lk_past (by decide +kernel)).trans ((lk_past (by decide +kernel)).trans ((lk_past (by decide +kernel)).trans ((lk_past (by decide +kernel)).trans ((lk_past (by decide +kernel)).trans ((lk_past (by decide +kernel)).trans ((lk_past (by decide +kernel)).trans ((lk_past (by decide +kernel)).trans rfl)))))))))
theorem Wk_no_writes : List.lookup ("writes" : Str) (Wk_L v0 v1 v2 v3 v4 v5 v6 v7 v8) = none := ((lk_past (by decide +kernel)).trans ((lk_past (by decide +kernel)).trans ((lk_past (by decide +kernel)).trans ((lk_past (by decide +kernel)).trans ((lk_past (by decide +kernel)).trans ((lk_past (by decide +kernel)).trans ((lk_past (by decide +kernel)).trans ((lk_past (by decide +kernel)).trans ((lk_past (by decide +kernel)).trans rfl)))))))))
theorem Wk_no_reads : List.lookup ("reads" : Str) (Wk_L v0 v1 v2 v3 v4 v5 v6 v7 v8) = none := ((lk_past (by decide +kernel)).trans ((lk_past (by decide +kernel)).trans ((lk_past (by decide +kernel)).trans ((lk_past (by decide +kernel)).trans ((lk_past (by decide +kernel)).trans ((lk_past (by decide +kernel)).trans ((lk_past (by decide +kernel)).trans ((lk_past (by decide +kernel)).trans ((lk_past (by decide +kernel)).trans rfl)))))))))
theorem Wk_no_total : List.lookup ("total" : Str) (Wk_L v0 v1 v2 v3 v4 v5 v6 v7 v8) = none := ((lk_past (by decide +kernel)).trans ((lk_past (by decide +kernel)).trans ((lk_past (by decide +kernel)).trans ((lk_past (by decide +kernel)).trans ((lk_past (by decide +kernel)).trans ((lk_past (by decide +kernel)).trans ((lk_past (by decide +kernel)).trans ((lk_past (by decide +kernel)).trans ((lk_past (by decide +kernel)).trans rfl)))))))))
theorem Wk_no_read_source : List.lookup ("read_source" : Str) (Wk_L v0 v1 v2 v3 v4 v5 v6 v7 v8) = none := ((lk_past (by decide +kernel)).trans ((lk_past (by decide +kernel)).trans ((lk_past (by decide +kernel)).trans ((lk_past (by decide +kernel)).trans ((lk_past (by decide +kernel)).trans ((lk_past (by decide +kernel)).trans ((lk_past (by decide +kernel)).trans ((lk_past (by decide +kernel)).trans ((lk_past (by decide +kernel)).trans rfl)))))))))
theorem Wk_no_make_new : List.lookup ("make_new" : Str) (Wk_L v0 v1 v2 v3 v4 v5 v6 v7 v8) = none := ((lk_past (by decide +kernel)).trans ((lk_past (by decide +kernel)).trans ((lk_past (by decide +kernel)).trans ((lk_past (by decide +kernel)).trans ((lk_past (by decide +kernel)).trans ((lk_past (by decide +kernel)).trans ((lk_past (by decide +kernel)).trans ((lk_past (by decide +kernel)).trans ((lk_past (by decide +kernel)).trans rfl)))))))))
theorem Wk_no_target_place : List.lookup ("target_place" : Str) (Wk_L v0 v1 v2 v3 v4 v5 v6 v7 v8) = none := ((lk_past (by decide +kernel)).trans ((lk_past (by decide +kernel)).trans ((lk_past (by decide +kernel)).trans ((lk_past (by decide +kernel)).trans ((lk_past (by decide +kernel)).trans ((lk_past (by decide +kernel)).trans ((lk_past (by decide +kernel)).trans ((lk_past (by decide +kernel)).trans ((lk_past (by decide +kernel)).trans rfl)))))))))
theorem Wk_no_step : List.lookup ("step" : Str) (Wk_L v0 v1 v2 v3 v4 v5 v6 v7 v8) = none := ((lk_past (by decide +kernel)).trans ((lk_past (by decide +kernel)).trans ((lk_past (by decide +kernel)).trans ((lk_past (by decide +kernel)).trans ((lk_past (by decide +kernel)).trans ((lk_past (by decide +kernel)).trans ((lk_past (by decide +kernel)).trans ((lk_past (by decide +kernel)).trans ((lk_past (by decide +kernel)).trans rfl)))))))))
theorem Wk_no_write : List.lookup ("write" : Str) (Wk_L v0 v1 v2 v3 v4 v5 v6 v7 v8) = none := ((lk_past (by decide +kernel)).trans ((lk_past (by decide +kernel)).trans ((lk_past (by decide +kernel)).trans ((lk_past (by decide +kernel)).trans ((lk_past (by decide +kernel)).trans ((lk_past (by decide +kernel)).trans ((lk_past (by decide +kernel)).trans ((lk_past (by decide +kernel)).trans ((lk_past (by decide +kernel)).trans rfl)))))))))
theorem Wk_no_finish : List.lookup ("finish" : Str) (Wk_L v0 v1 v2 v3 v4 v5 v6 v7 v8) = none := ((lk_past (by decide +kernel)).trans ((lk_past (by decide +kernel)).trans ((lk_past (by decide +kernel)).trans ((lk_past (by decide +kernel)).trans ((lk_past (by decide +kernel)).trans ((lk_past (by decide +kernel)).trans ((lk_past (by decide +kernel)).trans ((lk_past (by decide +kernel)).trans ((lk_past (by decide +kernel)).trans rfl)))))))))
theorem Wk_put_kind : putF "kind" y (Wk_L v0 v1 v2 v3 v4 v5 v6 v7 v8) = Wk_L y v1 v2 v3 v4 v5 v6 v7 v8 := put_here
theorem Wk_put_source : putF "source" y (Wk_L v0 v1 v2 v3 v4 v5 v6 v7 v8) = Wk_L v0 y v2 v3 v4 v5 v6 v7 v8 := (put_past (by decide +kernel) put_here)
theorem Wk_put_target : putF "target" y (Wk_L v0 v1 v2 v3 v4 v5 v6 v7 v8) = Wk_L v0 v1 y v3 v4 v5 v6 v7 v8 := (put_past (by decide +kernel) (put_past (by decide +kernel) put_here))
theorem Wk_put_value : putF "value" y (Wk_L v0 v1 v2 v3 v4 v5 v6 v7 v8) = Wk_L v0 v1 v2 y v4 v5 v6 v7 v8 := (put_past (by decide +kernel) (put_past (by decide +kernel) (put_past (by decide +kernel) put_here)))
theorem Wk_put_done : putF "done" y (Wk_L v0 v1 v2 v3 v4 v5 v6 v7 v8) = Wk_L v0 v1 v2 v3 y v5 v6 v7 v8 := (put_past (by decide +kernel) (put_past (by decide +kernel) (put_past (by decide +kernel) (put_past (by decide +kernel) put_here))))
theorem Wk_put_source_bytes : putF "source_bytes" y (Wk_L v0 v1 v2 v3 v4 v5 v6 v7 v8) = Wk_L v0 v1 v2 v3 v4 y v6 v7 v8 := (put_past (by decide +kernel) (put_past (by decide +kernel) (put_past (by decide +kernel) (put_past (by decide +kernel) (put_past (by decide +kernel) put_here)))))
theorem Wk_put_target_bytes : putF "target_bytes" y (Wk_L v0 v1 v2 v3 v4 v5 v6 v7 v8) = Wk_L v0 v1 v2 v3 v4 v5 y v7 v8 := (put_past (by decide +kernel) (put_past (by decide +kernel) (put_past (by decide +kernel) (put_past (by decide +kernel) (put_past (by decide +kernel) (put_past (by decide +kernel) put_here))))))
theorem Wk_put_result : putF "result" y (Wk_L v0 v1 v2 v3 v4 v5 v6 v7 v8) = Wk_L v0 v1 v2 v3 v4 v5 v6 y v8 := (put_past (by decide +kernel) (put_past (by decide +kernel) (put_past (by decide +kernel) (put_past (by decide +kernel) (put_past (by decide +kernel) (put_past (by decide +kernel) (put_past (by decide +kernel) put_here)))))))
theorem Wk_put_new : putF "new" y (Wk_L v0 v1 v2 v3 v4 v5 v6 v7 v8) = Wk_L v0 v1 v2 v3 v4 v5 v6 v7 y := (put_past (by decide +kernel) (put_past (by decide +kernel) (put_past (by decide +kernel) (put_past (by decide +kernel) (put_past (by decide +kernel) (put_past (by decide +kernel) (put_past (by decide +kernel) (put_past (by decide +kernel) put_here))))))))
theorem Wk_new_kind : putF "kind" v0 ([] : List (Str × V)) = ([("kind", v0)] : List (Str × V)) := rfl
theorem Wk_new_source : putF "source" v1 ([("kind", v0)] : List (Str × V)) = ([("kind", v0), ("source", v1)] : List (Str × V)) := (put_past (by decide +kernel) rfl)
theorem Wk_new_target : putF "target" v2 ([("kind", v0), ("source", v1)] : List (Str × V)) = ([("kind", v0), ("source", v1), ("target", v2)] : List (Str × V)) := (put_past (by decide +kernel) (put_past (by decide +kernel) rfl))
theorem Wk_new_value : putF "value" v3 ([("kind", v0), ("source", v1), ("target", v2)] : List (Str × V)) = ([("kind", v0), ("source", v1), ("target", v2), ("value", v3)] : List (Str × V)) := (put_past (by decide +kernel) (put_past (by decide +kernel) (put_past (by decide +kernel) rfl)))
theorem Wk_new_done : putF "done" v4 ([("kind", v0), ("source", v1), ("target", v2), ("value", v3)] : List (Str × V)) = ([("kind", v0), ("source", v1), ("target", v2), ("value", v3), ("done", v4)] : List (Str × V)) := (put_past (by decide +kernel) (put_past (by decide +kernel) (put_past (by decide +kernel) (put_past (by decide +kernel) rfl))))
theorem Wk_new_source_bytes : putF "source_bytes" v5 ([("kind", v0), ("source", v1), ("target", v2), ("value", v3), ("done", v4)] : List (Str × V)) = ([("kind", v0), ("source", v1), ("target", v2), ("value", v3), ("done", v4), ("source_bytes", v5)] : List (Str × V)) := (put_past (by decide +kernel) (put_past (by decide +kernel) (put_past (by decide +kernel) (put_past (by decide +kernel) (put_past (by decide +kernel) rfl)))))
theorem Wk_new_target_bytes : putF "target_bytes" v6 ([("kind", v0), ("source", v1), ("target", v2), ("value", v3), ("done", v4), ("source_bytes", v5)] : List (Str × V)) = ([("kind", v0), ("source", v1), ("target", v2), ("value", v3), ("done", v4), ("source_bytes", v5), ("target_bytes", v6)] : List (Str × V)) := (put_past (by decide +kernel) (put_past (by decide +kernel) (put_past (by decide +kernel) (put_past (by decide +kernel) (put_past (by decide +kernel) (put_past (by decide +kernel) rfl))))))
theorem Wk_new_result : putF "result" v7 ([("kind", v0), ("source", v1), ("target", v2), ("value", v3), ("done", v4), ("source_bytes", v5), ("target_bytes", v6)] : List (Str × V)) = ([("kind", v0), ("source", v1), ("target", v2), ("value", v3), ("done", v4), ("source_bytes", v5), ("target_bytes", v6), ("result", v7)] : List (Str × V)) := (put_past (by decide +kernel) (put_past (by decide +kernel) (put_past (by decide +kernel) (put_past (by decide +kernel) (put_past (by decide +kernel) (put_past (by decide +kernel) (put_past (by decide +kernel) rfl)))))))
theorem Wk_new_new : putF "new" v8 ([("kind", v0), ("source", v1), ("target", v2), ("value", v3), ("done", v4), ("source_bytes", v5), ("target_bytes", v6), ("result", v7)] : List (Str × V)) = ([("kind", v0), ("source", v1), ("target", v2), ("value", v3), ("done", v4), ("source_bytes", v5), ("target_bytes", v6), ("result", v7), ("new", v8)] : List (Str × V)) := (put_past (by decide +kernel) (put_past (by decide +kernel) (put_past (by decide +kernel) (put_past (by decide +kernel) (put_past (by decide +kernel) (put_past (by decide +kernel) (put_past (by decide +kernel) (put_past (by decide +kernel) rfl))))))))
end

structure XC (K : PySem.W.Frag) (A : Ad) : Prop where
  cf_Work : CF K A.c_Work ["kind", "source", "target", "value", "done", "source_bytes", "target_bytes", "result", "new"]
  exm_OutOfRange_OutOfRange : PySem.W.exmOne K (.ref A.c_OutOfRange) (.ref A.c_OutOfRange) = some true

/-! ### works -/
structure S5 where
  n : Nat
  big : Bool
  f : Nat
  w : Nat
  s : Bool
def d5 (x : S5) : PyData := .tuple [.int x.n, .bool x.big, .int x.f, .int x.w, .bool x.s]
structure S5.Ok (x : S5) : Prop where
  n0 : 1 ≤ x.n
  n4 : x.n ≤ 4
  w0 : 1 ≤ x.w
  fw : x.f + x.w ≤ 8 * x.n
def S5.whole (x : S5) : Bool := decide (x.w = 8 * x.n)
def S5.inB (x : S5) (r : Int) : Prop := lo x.w x.s ≤ r ∧ r ≤ hi x.w x.s
instance (x : S5) (r : Int) : Decidable (x.inB r) := inferInstanceAs (Decidable (_ ∧ _))
def rd5 (x : S5) (bs : List Int) : Int := rslot bs 0 x.n x.big x.f x.w x.s
def wr5 (x : S5) (bs : List Int) (v : Int) : List Int := wslot bs 0 x.n x.big x.f x.w v
inductive Cf | get (s : S5) | set (t : S5) (v : Int) | add (s : S5) (v : Int) | exch (s : S5) (v : Int) | copy (s t : S5)
namespace Cf
def kind : Cf → Str
  | get _ => "get" | set _ _ => "set" | add _ _ => "add" | exch _ _ => "exchange" | copy _ _ => "copy"
def src : Cf → Option S5
  | get s => some s | set _ _ => none | add s _ => some s | exch s _ => some s | copy s _ => some s
def tgt : Cf → Option S5
  | get _ => none | set t _ => some t | add _ _ => none | exch _ _ => none | copy _ t => some t
def val : Cf → Option Int
  | get _ => none | set _ v => some v | add _ v => some v | exch _ v => some v | copy _ _ => none
def wri : Cf → S5
  | get s => s | set t _ => t | add s _ => s | exch s _ => s | copy _ t => t
def srd (c : Cf) : Nat := match c.src with | some x => x.n | none => 0
def trd (c : Cf) : Nat := match c.tgt with | some x => if x.whole = true then 0 else x.n | none => 0
def wrs : Cf → Nat
  | get _ => 0 | set t _ => t.n | add s _ => s.n | exch s _ => s.n | copy _ t => t.n
def rds (c : Cf) : Nat := c.srd + c.trd
def tot (c : Cf) : Nat := c.rds + c.wrs
def isSet : Cf → Bool | set _ _ => true | _ => false
def isGet : Cf → Bool | get _ => true | _ => false
def isAdd : Cf → Bool | add _ _ => true | _ => false
def chk : Cf → Bool | add _ _ => true | copy _ _ => true | _ => false
def giv : Cf → Bool | set _ _ => true | exch _ _ => true | _ => false
def resOf (c : Cf) (r : Int) : Int := match c with | add _ v => r + v | _ => r
structure Ok (c : Cf) : Prop where
  s : ∀ x, c.src = some x → x.Ok
  t : ∀ x, c.tgt = some x → x.Ok
  v : c.giv = true → ∀ v, c.val = some v → c.wri.inB v
theorem wOk {c : Cf} (h : c.Ok) : c.wri.Ok := by
  cases c <;> first | exact h.s _ rfl | exact h.t _ rfl
end Cf
structure Ws where
  done : Nat
  sb : List Int
  tb : List Int
  res : Option Int
  nw : List Int
def Ws.start : Ws := ⟨0, [], [], none, []⟩
def oI : Option Int → V | some i => .int i | none => .non
def oN : Option Nat → V | some i => .int i | none => .non
def oD : Option S5 → PyData | some x => d5 x | none => .none
namespace Cf
/-- the number that is written -/
def num (c : Cf) (st : Ws) : Int := match c with | set _ v => v | exch _ v => v | _ => st.res.getD 0
def old (c : Cf) (st : Ws) : List Int := if c.tgt.isNone = true then st.sb else st.tb
def base (c : Cf) (st : Ws) : List Int := if (c.old st).isEmpty = true then List.replicate c.wri.n 0 else c.old st
def mk (c : Cf) (st : Ws) : List Int := wr5 c.wri (c.base st) (c.num st)
structure Inv (c : Cf) (st : Ws) : Prop where
  d : st.done ≤ c.tot
  sb : st.sb.length = min st.done c.srd
  tb : st.tb.length = min (st.done - c.srd) c.trd
  res : 0 < c.srd → c.srd ≤ st.done → ∃ r, st.res = some r ∧ (c.chk = true → c.wri.inB r)
  nw : c.rds < st.done → st.nw.length = c.wri.n
inductive Out | going | done (r : Option Int) | range
/-- where the word is written -/
def place (c : Cf) (so to : Option Nat) : Nat := if c.tgt.isNone = true then so.getD 0 else to.getD 0
def told (c : Cf) (st : Ws) : Out := if st.done < c.tot then .going else .done (if c.isSet = true then none else st.res)
/-- a step that reads the source -/
def stS (c : Cf) (st : Ws) (D : List Int) (so : Option Nat) : Ws := ⟨st.done + 1, st.sb ++ [D.getD (so.getD 0 + st.done) 0], st.tb, st.res, st.nw⟩
/-- .. its last byte -/
def stR (c : Cf) (st : Ws) : Ws := ⟨st.done, st.sb, st.tb, some (c.resOf (rd5 (c.src.getD c.wri) st.sb)), st.nw⟩
def stT (c : Cf) (st : Ws) (D : List Int) (to : Option Nat) : Ws := ⟨st.done + 1, st.sb, st.tb ++ [D.getD (to.getD 0 + (st.done - c.srd)) 0], st.res, st.nw⟩
def stN (c : Cf) (st : Ws) : Ws := if st.done = c.rds then ⟨st.done + 1, st.sb, st.tb, st.res, c.mk st⟩ else ⟨st.done + 1, st.sb, st.tb, st.res, st.nw⟩
def ptN (c : Cf) (st : Ws) (D : List Int) (so to : Option Nat) : List Int := D.set (c.place so to + (st.done - c.rds)) ((c.stN st).nw.getD (st.done - c.rds) 0)
/-- a step: the work, the bytes, what it tells -/
def step (c : Cf) (st : Ws) (D : List Int) (so to : Option Nat) : Ws × List Int × Out :=
  if st.done < c.srd then
    if st.done + 1 = c.srd then
      let st' := c.stR (c.stS st D so)
      if c.chk = true ∧ ¬ c.wri.inB (c.resOf (rd5 (c.src.getD c.wri) (c.stS st D so).sb)) then (st', D, .range) else (st', D, c.told st')
    else (c.stS st D so, D, c.told (c.stS st D so))
  else if st.done < c.rds then (c.stT st D to, D, c.told (c.stT st D to))
  else (c.stN st, c.ptN st D so to, c.told (c.stN st))
/-- the places fit -/
structure Fit (c : Cf) (n : Nat) (so to : Option Nat) : Prop where
  s : ∀ x, c.src = some x → ∃ i, so = some i ∧ i + x.n ≤ n
  t : ∀ x, c.tgt = some x → ∃ i, to = some i ∧ i + x.n ≤ n
end Cf
/-! ### a work in a ledger -/
def wkE (A : Ad) (w dx pb pt pn : Addr) (sv tv : V) (c : Cf) (st : Ws) : List (Addr × Ent) :=
  [(w, .raw (.ins A.c_Work dx (Wk_L (.str c.kind) sv tv (oI c.val) (.int st.done) (.ref pb) (.ref pt) (oI st.res) (.ref pn)))), (pb, .raw (.lst (st.sb.map V.int))), (pt, .raw (.lst (st.tb.map V.int))), (pn, .raw (.lst (st.nw.map V.int)))]
def wkI (sv tv : V) (c : Cf) : List (V × PyData) := [(sv, oD c.src), (tv, oD c.tgt)]
def oT : Cf.Out → List PyData
  | .going => [.str "going"]
  | .done r => [.str "done", match r with | some i => .int i | none => .none]
  | .range => [.str "range"]
def sp_is_whole (K : PySem.W.Frag) (A : Ad) : Sp := fun vs H Q _ => ∃ (a : Addr) (x : S5), vs = [.ref a] ∧ Im K H (.ref a) (d5 x) ∧ Q (.bl x.whole) H
def sp_Work___init__ (K : PySem.W.Frag) (A : Ad) : Sp := fun vs H Q _ => ∃ (w dx : Addr) (k : Str) (sv tv vv : V), vs = [.ref w, .str k, sv, tv, vv] ∧ H w = some (.ins A.c_Work dx []) ∧
  ∀ pb pt pn H', H pb = none → H pt = none → H pn = none → Led K H [w] H' [(w, .raw (.ins A.c_Work dx (Wk_L (.str k) sv tv vv (.int 0) (.ref pb) (.ref pt) .non (.ref pn)))), (pb, .raw (.lst [])), (pt, .raw (.lst [])), (pn, .raw (.lst []))] [] → Q .non H'
def sp_Work_written (K : PySem.W.Frag) (A : Ad) : Sp := fun vs H Q _ => ∃ (w dx pb pt pn : Addr) (sv tv : V) (c : Cf) (st : Ws), vs = [.ref w] ∧ Led K H [] H (wkE A w dx pb pt pn sv tv c st) (wkI sv tv c) ∧ Q (if c.tgt.isNone = true then sv else tv) H
def spNat (f : Cf → Nat) (K : PySem.W.Frag) (A : Ad) : Sp := fun vs H Q _ => ∃ (w dx pb pt pn : Addr) (sv tv : V) (c : Cf) (st : Ws), vs = [.ref w] ∧ Led K H [] H (wkE A w dx pb pt pn sv tv c st) (wkI sv tv c) ∧ ∀ H', Same H H' → Q (.int (f c)) H'
def sp_Work_source_reads := spNat Cf.srd
def sp_Work_target_reads := spNat Cf.trd
def sp_Work_writes := spNat Cf.wrs
def sp_Work_reads := spNat Cf.rds
def sp_Work_total := spNat Cf.tot
def sp_Work_target_place (K : PySem.W.Frag) (A : Ad) : Sp := fun vs H Q _ => ∃ (w dx pb pt pn : Addr) (sv tv x y : V) (c : Cf) (st : Ws), vs = [.ref w, x, y] ∧ Led K H [] H (wkE A w dx pb pt pn sv tv c st) (wkI sv tv c) ∧ Q (if c.tgt.isNone = true then x else y) H
def sp_Work_read_source (K : PySem.W.Frag) (A : Ad) : Sp := fun vs H Q E => ∃ (w dx pb pt pn : Addr) (sv tv : V) (c : Cf) (st : Ws) (x : S5), vs = [.ref w] ∧ Led K H [w] H (wkE A w dx pb pt pn sv tv c st) (wkI sv tv c) ∧ c.Ok ∧ c.src = some x ∧ st.sb.length = x.n ∧
  (¬ (c.chk = true ∧ ¬ c.wri.inB (c.resOf (rd5 x st.sb))) → ∀ H', Led K H [w] H' (wkE A w dx pb pt pn sv tv c { st with res := some (c.resOf (rd5 x st.sb)) }) (wkI sv tv c) → Q .non H') ∧
  (c.chk = true ∧ ¬ c.wri.inB (c.resOf (rd5 x st.sb)) → ∀ H', Led K H [w] H' (wkE A w dx pb pt pn sv tv c { st with res := some (c.resOf (rd5 x st.sb)) }) (wkI sv tv c) → E (.ref A.c_OutOfRange) none H')
def sp_Work_make_new (K : PySem.W.Frag) (A : Ad) : Sp := fun vs H Q _ => ∃ (w dx pb pt pn : Addr) (sv tv : V) (c : Cf) (st : Ws), vs = [.ref w] ∧ Led K H [w] H (wkE A w dx pb pt pn sv tv c st) (wkI sv tv c) ∧ c.Ok ∧ c.isGet = false ∧ (c.base st).length = c.wri.n ∧ c.wri.inB (c.num st) ∧ (c.giv = false → st.res.isSome = true) ∧
  ∀ pn' H', H pn' = none → Led K H [w] H' (wkE A w dx pb pt pn' sv tv c { st with nw := c.mk st }) (wkI sv tv c) → Q .non H'
def sp_Work_write (K : PySem.W.Frag) (A : Ad) : Sp := fun vs H Q _ => ∃ (w dx pb pt pn d : Addr) (sv tv : V) (c : Cf) (st : Ws) (D : List Int) (o i : Nat), vs = [.ref w, .ref d, .int o, .int i] ∧ Led K H [w, d] H (wkE A w dx pb pt pn sv tv c st ++ [(d, .raw (.lst (D.map V.int)))]) (wkI sv tv c) ∧ c.Ok ∧ c.isGet = false ∧
  (i = 0 → (c.base st).length = c.wri.n ∧ c.wri.inB (c.num st) ∧ (c.giv = false → st.res.isSome = true)) ∧ (i ≠ 0 → st.nw.length = c.wri.n) ∧ i < c.wri.n ∧ o + i < D.length ∧
  ∀ pn' H', (i ≠ 0 → pn' = pn) → (i = 0 → H pn' = none) → Led K H [w, d] H' (wkE A w dx pb pt pn' sv tv c { st with nw := if i = 0 then c.mk st else st.nw } ++ [(d, .raw (.lst ((D.set (o + i) ((if i = 0 then c.mk st else st.nw).getD i 0)).map V.int)))]) (wkI sv tv c) → Q .non H'
def sp_Work_step (K : PySem.W.Frag) (A : Ad) : Sp := fun vs H Q E => ∃ (w dx pb pt pn d : Addr) (sv tv : V) (c : Cf) (st : Ws) (D : List Int) (so to : Option Nat), vs = [.ref w, .ref d, oN so, oN to] ∧ Led K H [w, pb, pt, d] H (wkE A w dx pb pt pn sv tv c st ++ [(d, .raw (.lst (D.map V.int)))]) (wkI sv tv c) ∧ c.Ok ∧ c.Inv st ∧ st.done < c.tot ∧ c.Fit D.length so to ∧
  ((c.step st D so to).2.2 = .range → ∀ H', Led K H [w, pb, pt, d] H' (wkE A w dx pb pt pn sv tv c (c.step st D so to).1 ++ [(d, .raw (.lst (D.map V.int)))]) (wkI sv tv c) → E (.ref A.c_OutOfRange) none H') ∧
  (∀ q pn' H', (c.step st D so to).2.2 ≠ .range → (pn' = pn ∨ H pn' = none) → Led K H [w, pb, pt, d] H' (wkE A w dx pb pt pn' sv tv c (c.step st D so to).1 ++ [(d, .raw (.lst ((c.step st D so to).2.1.map V.int)))]) ((.ref q, .tuple (oT (c.step st D so to).2.2)) :: wkI sv tv c) → Q (.ref q) H')
theorem Im.oD {K : PySem.W.Frag} {H : Hp} {v : V} {o : Option S5} (h : Im K H v (Rs.oD o)) : (o = none ∧ v = .non) ∨ ∃ a x, o = some x ∧ v = .ref a ∧ Im K H (.ref a) (d5 x) := by
  cases o with
  | none => exact .inl ⟨rfl, h.vOf _ rfl⟩
  | some x =>
    obtain ⟨a, rfl⟩ := Im.isRef (ds := [.int x.n, .bool x.big, .int x.f, .int x.w, .bool x.s]) h
    exact .inr ⟨a, x, rfl, rfl, h⟩
theorem kd_set (c : Cf) : eqS c.kind "set" = c.isSet := by cases c <;> first | exact eqS_t rfl | exact eqS_f (by simp only [Cf.kind]; decide +kernel)
theorem kd_get (c : Cf) : eqS c.kind "get" = c.isGet := by cases c <;> first | exact eqS_t rfl | exact eqS_f (by simp only [Cf.kind]; decide +kernel)
theorem kd_add (c : Cf) : eqS c.kind "add" = c.isAdd := by cases c <;> first | exact eqS_t rfl | exact eqS_f (by simp only [Cf.kind]; decide +kernel)
theorem kd_sc (c : Cf) : inV (.str c.kind) [.str "set", .str "copy"] = !c.tgt.isNone := by cases c <;> (simp only [Cf.kind, Cf.tgt, Option.isNone]; decide +kernel)
theorem kd_ac (c : Cf) : inV (.str c.kind) [.str "add", .str "copy"] = c.chk := by cases c <;> (simp only [Cf.kind, Cf.chk]; decide +kernel)
theorem kd_se (c : Cf) : inV (.str c.kind) [.str "set", .str "exchange"] = c.giv := by cases c <;> (simp only [Cf.kind, Cf.giv]; decide +kernel)
theorem isSet_src (c : Cf) : c.isSet = c.src.isNone := by cases c <;> rfl
theorem whole_eq (x : S5) : decide ((x.w : Int) = 8 * (x.n : Int)) = x.whole := by
  unfold S5.whole
  by_cases h : x.w = 8 * x.n
  · rw [decide_eq_true h, decide_eq_true (by omega)]
  · rw [decide_eq_false h, decide_eq_false (by omega)]
section
variable {K : PySem.W.Frag} {A : Ad} {H0 H : Hp} {S : List Addr} {L : List (Addr × Ent)} {I : List (V × PyData)} {Q : VK} {E : XK} {w dx pb pt pn a : Addr} {sv tv x y : V} {c : Cf} {st : Ws} {X : List (Addr × Ent)}
/-- in, not in a tuple of scalars -/
theorem h_ninT {ds : List PyData} {us : List V} (h : Im K H (.ref a) (.tuple ds)) (hv : Rs.vOfs ds = some us) (f1 : flatV x = true) (f2 : us.all flatV = true) (k : Q (.bl (!inV x us)) H) : uNin K x (.ref a) H Q := by
  cases h with
  | tup hs ha =>
    have e := ha.vOfs hv
    subst e
    exact .inl ⟨a, _, rfl, .inr hs, f1, f2, k⟩
theorem h_inT {ds : List PyData} {us : List V} (h : Im K H (.ref a) (.tuple ds)) (hv : Rs.vOfs ds = some us) (f1 : flatV x = true) (f2 : us.all flatV = true) (k : Q (.bl (inV x us)) H) : uIn K x (.ref a) H Q := by
  cases h with
  | tup hs ha =>
    have e := ha.vOfs hv
    subst e
    exact .inl ⟨a, _, rfl, .inr hs, f1, f2, k⟩
theorem Led.wk (h : Led K H0 S H (wkE A w dx pb pt pn sv tv c st ++ X) I) (i1 : Im K H sv (oD c.src)) (i2 : Im K H tv (oD c.tgt)) (S1 : List Addr) : Led K H S1 H (wkE A w dx pb pt pn sv tv c st) (wkI sv tv c) := by
  refine ⟨?_, fun n b e q => ?_, fun n v d q => ?_, KBs.refl⟩
  · have q := h.nd
    rw [List.map_append] at q
    exact (List.nodup_append.mp q).1
  · refine h.at_ n b e ?_
    rw [List.getElem?_append_left (List.getElem?_eq_some_iff.mp q).1]
    exact q
  · match n, q with
    | 0, q =>
      cases q
      exact i1
    | 1, q =>
      cases q
      exact i2
theorem wv_is (i1 : Im K H sv (oD c.src)) (i2 : Im K H tv (oD c.tgt)) : ∃ a, (if c.tgt.isNone = true then sv else tv) = .ref a ∧ Im K H (.ref a) (d5 c.wri) := by
  cases c
  all_goals
    first
      | (obtain ⟨a, ha⟩ := Im.isRef (ds := [_, _, _, _, _]) i2
         subst ha
         exact ⟨a, rfl, i2⟩)
      | (obtain ⟨a, ha⟩ := Im.isRef (ds := [_, _, _, _, _]) i1
         subst ha
         exact ⟨a, rfl, i1⟩)
theorem h_Wwri (h : Led K H0 S H (wkE A w dx pb pt pn sv tv c st ++ X) I) (i1 : Im K H sv (oD c.src)) (i2 : Im K H tv (oD c.tgt)) (k : ∀ a, Led K H0 S H (wkE A w dx pb pt pn sv tv c st ++ X) ((.ref a, .tuple [.int c.wri.n, .bool c.wri.big, .int c.wri.f, .int c.wri.w, .bool c.wri.s]) :: I) → Q (.ref a) H) : sp_Work_written K A [.ref w] H Q E := by
  obtain ⟨a, e, ia⟩ := wv_is i1 i2
  exact ⟨w, dx, pb, pt, pn, sv, tv, c, st, rfl, h.wk i1 i2 [], by rw [e]; exact k a (h.imNew ia)⟩
theorem h_Wnat {f : Cf → Nat} (h : Led K H0 S H (wkE A w dx pb pt pn sv tv c st ++ X) I) (i1 : Im K H sv (oD c.src)) (i2 : Im K H tv (oD c.tgt)) (k : ∀ H', Led K H0 S H' (wkE A w dx pb pt pn sv tv c st ++ X) I → Q (.int (f c)) H') : spNat f K A [.ref w] H Q E :=
  ⟨w, dx, pb, pt, pn, sv, tv, c, st, rfl, h.wk i1 i2 [], fun H' s => k H' (h.same s)⟩
theorem h_Wsrd (h : Led K H0 S H (wkE A w dx pb pt pn sv tv c st ++ X) I) (i1 : Im K H sv (oD c.src)) (i2 : Im K H tv (oD c.tgt)) (k : ∀ H', Led K H0 S H' (wkE A w dx pb pt pn sv tv c st ++ X) I → Q (.int c.srd) H') : sp_Work_source_reads K A [.ref w] H Q E := h_Wnat h i1 i2 k
theorem h_Wtrd (h : Led K H0 S H (wkE A w dx pb pt pn sv tv c st ++ X) I) (i1 : Im K H sv (oD c.src)) (i2 : Im K H tv (oD c.tgt)) (k : ∀ H', Led K H0 S H' (wkE A w dx pb pt pn sv tv c st ++ X) I → Q (.int c.trd) H') : sp_Work_target_reads K A [.ref w] H Q E := h_Wnat h i1 i2 k
theorem h_Wwrs (h : Led K H0 S H (wkE A w dx pb pt pn sv tv c st ++ X) I) (i1 : Im K H sv (oD c.src)) (i2 : Im K H tv (oD c.tgt)) (k : ∀ H', Led K H0 S H' (wkE A w dx pb pt pn sv tv c st ++ X) I → Q (.int c.wrs) H') : sp_Work_writes K A [.ref w] H Q E := h_Wnat h i1 i2 k
theorem h_Wrds (h : Led K H0 S H (wkE A w dx pb pt pn sv tv c st ++ X) I) (i1 : Im K H sv (oD c.src)) (i2 : Im K H tv (oD c.tgt)) (k : ∀ H', Led K H0 S H' (wkE A w dx pb pt pn sv tv c st ++ X) I → Q (.int c.rds) H') : sp_Work_reads K A [.ref w] H Q E := h_Wnat h i1 i2 k
theorem h_Wtot (h : Led K H0 S H (wkE A w dx pb pt pn sv tv c st ++ X) I) (i1 : Im K H sv (oD c.src)) (i2 : Im K H tv (oD c.tgt)) (k : ∀ H', Led K H0 S H' (wkE A w dx pb pt pn sv tv c st ++ X) I → Q (.int c.tot) H') : sp_Work_total K A [.ref w] H Q E := h_Wnat h i1 i2 k
theorem h_Wplace (h : Led K H0 S H (wkE A w dx pb pt pn sv tv c st ++ X) I) (i1 : Im K H sv (oD c.src)) (i2 : Im K H tv (oD c.tgt)) (k : Q (if c.tgt.isNone = true then x else y) H) : sp_Work_target_place K A [.ref w, x, y] H Q E :=
  ⟨w, dx, pb, pt, pn, sv, tv, x, y, c, st, rfl, h.wk i1 i2 [], k⟩
theorem wk_hd {pn' : Addr} {e : Addr × Ent} (he : e ∈ wkE A w dx pb pt pn' sv tv c st) (h : pn' = pn ∨ H pn' = none) : e.1 ∈ [w, pb, pt, pn] ∨ H e.1 = none := by
  unfold wkE at he
  simp only [List.mem_cons, List.not_mem_nil, or_false] at he
  rcases he with rfl | rfl | rfl | rfl
  · exact .inl (by simp)
  · exact .inl (by simp)
  · exact .inl (by simp)
  · rcases h with rfl | h
    · exact .inl (by simp)
    · exact .inr h
theorem mk_len (h : (c.base st).length = c.wri.n) : (c.mk st).length = c.wri.n := by
  unfold Cf.mk wr5 wslot
  rw [put_len (by rw [h, Nat.zero_add]; exact Nat.le_refl _)]
  exact h
theorem im_oI (o : Option Int) : Im K H (oI o) (match o with | some i => PyData.int i | none => .none) := by
  cases o
  · exact .non
  · exact .int _
theorem base_len (ok : c.Ok) (hg : c.isGet = false) (h1 : st.sb.length = c.srd) (h2 : st.tb.length = c.trd) : (c.base st).length = c.wri.n := by
  have hw := (Cf.wOk ok).n0
  have e : ∀ l : List Int, (l.length = 0 ∨ l.length = c.wri.n) → (if l.isEmpty = true then List.replicate c.wri.n (0 : Int) else l).length = c.wri.n := fun l hl => by
    cases l with
    | nil => exact List.length_replicate
    | cons a r =>
      rcases hl with hl | hl
      · exact absurd hl (by simp)
      · exact hl
  unfold Cf.base
  refine e _ ?_
  cases c with
  | get s => exact nomatch hg
  | set t v =>
    show st.tb.length = 0 ∨ st.tb.length = t.n
    rw [h2]
    show (if t.whole = true then 0 else t.n) = 0 ∨ (if t.whole = true then 0 else t.n) = t.n
    split <;> simp
  | add s v => exact .inr h1
  | exch s v => exact .inr h1
  | copy s t =>
    show st.tb.length = 0 ∨ st.tb.length = t.n
    rw [h2]
    show (if t.whole = true then 0 else t.n) = 0 ∨ (if t.whole = true then 0 else t.n) = t.n
    split <;> simp
theorem num_ok (ok : c.Ok) (hg : c.isGet = false) (h : 0 < c.srd → ∃ r, st.res = some r ∧ (c.chk = true → c.wri.inB r)) : c.wri.inB (c.num st) ∧ (c.giv = false → st.res.isSome = true) := by
  cases c with
  | get s => exact nomatch hg
  | set t v => exact ⟨ok.v rfl v rfl, fun z => nomatch z⟩
  | add s v =>
    obtain ⟨r, e, b⟩ := h (ok.s s rfl).n0
    exact ⟨by show (Cf.add s v).wri.inB (st.res.getD 0); rw [e]; exact b rfl, fun _ => by rw [e]; rfl⟩
  | exch s v => exact ⟨ok.v rfl v rfl, fun z => nomatch z⟩
  | copy s t =>
    obtain ⟨r, e, b⟩ := h (ok.s s rfl).n0
    exact ⟨by show (Cf.copy s t).wri.inB (st.res.getD 0); rw [e]; exact b rfl, fun _ => by rw [e]; rfl⟩
theorem place_is {so to : Option Nat} {n : Nat} (fit : c.Fit n so to) : (if c.tgt.isNone = true then oN so else oN to) = .int (c.place so to) ∧ c.place so to + c.wri.n ≤ n := by
  cases c with
  | get s => obtain ⟨i, rfl, h⟩ := fit.s s rfl; exact ⟨rfl, h⟩
  | set t v => obtain ⟨i, rfl, h⟩ := fit.t t rfl; exact ⟨rfl, h⟩
  | add s v => obtain ⟨i, rfl, h⟩ := fit.s s rfl; exact ⟨rfl, h⟩
  | exch s v => obtain ⟨i, rfl, h⟩ := fit.s s rfl; exact ⟨rfl, h⟩
  | copy s t => obtain ⟨i, rfl, h⟩ := fit.t t rfl; exact ⟨rfl, h⟩
theorem wrs_get (h : 0 < c.wrs) : c.isGet = false ∧ c.wrs = c.wri.n := by
  cases c <;> first | exact ⟨rfl, rfl⟩ | exact absurd h (Nat.lt_irrefl 0)
theorem h_whole {z : S5} (h : Im K H (.ref a) (d5 z)) (k : Q (.bl z.whole) H) : sp_is_whole K A [.ref a] H Q E := ⟨a, z, rfl, h, k⟩
end

local macro_rules | `(tactic| walk_at "im") => `(tactic| (first | apply Im.int | apply Im.str | apply Im.bl | apply Im.non | assumption | (apply h_imm 0; (case h => assumption); (case e => with_unfolding_all rfl)) | (apply h_imm 1; (case h => assumption); (case e => with_unfolding_all rfl)) | (apply h_imm 2; (case h => assumption); (case e => with_unfolding_all rfl)) | (apply h_imm 3; (case h => assumption); (case e => with_unfolding_all rfl)) | (apply h_imm 4; (case h => assumption); (case e => with_unfolding_all rfl)) | (apply h_imm 5; (case h => assumption); (case e => with_unfolding_all rfl))))
local macro_rules | `(tactic| walk_at "ims") => `(tactic| repeat (first | apply Ims.nil | (apply Ims.cons; (focus (first | apply Im.int | apply Im.str | apply Im.bl | apply Im.non | assumption | (apply h_imm 0; (case h => assumption); (case e => with_unfolding_all rfl)) | (apply h_imm 1; (case h => assumption); (case e => with_unfolding_all rfl)) | (apply h_imm 2; (case h => assumption); (case e => with_unfolding_all rfl)) | (apply h_imm 3; (case h => assumption); (case e => with_unfolding_all rfl)) | (apply h_imm 4; (case h => assumption); (case e => with_unfolding_all rfl)) | (apply h_imm 5; (case h => assumption); (case e => with_unfolding_all rfl)))))))
local macro_rules | `(tactic| walk_at "sz") => `(tactic| (rw [sizeLine_eq]; ((try simp only [List.length_append, List.length_cons, List.length_nil, List.length_map, List.length_replicate, List.length_set, List.length_take, List.length_drop]) <;> omega)))
local macro_rules | `(tactic| walk_at "fr") => `(tactic| (first | assumption | (apply Or.inl; assumption) | (apply Or.inr; simp)))
local macro_rules | `(tactic| walk_at "ds") => `(tactic| dsimp only [a_lk0, a_lk1, a_lkS, a_V, a_vl, a_c, a_op, a_un, a_test, a_toB, a_tr, a_trB, a_trI, a_trN, a_and, a_or, a_not, a_andV, a_orV, a_notV, a_ifE, a_nil, a_cons, a_lst, a_tup, a_call, a_CB, a_BM, a_BM0, a_sl, a_part, a_partI, a_noPart, a_seq, a_next, a_brk, a_cont, a_asg, a_name, a_drop, a_ret, a_retN, a_if, a_aug, a_for, a_lc, a_jR1, a_jR2, a_jL, a_jT, a_rg1, a_rg2, a_gsub, a_yes, a_addI, a_addS, a_addR, a_iaddI, a_iaddS, a_sub, a_mulI, a_mulR, a_fdiv, a_mod, a_pow, a_shl, a_shr, a_lt, a_le, a_gt, a_ge, a_neg, a_EqI, a_EqS, a_EqB, a_EqNN, a_EqIN, a_EqNI, a_EqSN, a_EqNS, a_EqRR, a_EqRN, a_EqNR, a_NeI, a_NeS, a_NeB, a_NeNN, a_NeIN, a_NeNI, a_NeSN, a_NeNS, a_NeRR, a_NeRN, a_NeNR, a_isNN, a_isNI, a_isNS, a_isNB, a_isNR, a_notNN, a_notNI, a_notNS, a_notNB, a_notNR, a_intI, a_intB, a_abs, a_gnil, a_gcons, a_callS, a_raise0, a_tryAs, a_tryOnly, a_rev, a_jR3, a_fld, a_sfld, a_meth, a_methE, a_make, a_sfldaug, wipe, List.set, List.nil_append, List.cons_append])
local macro_rules | `(tactic| walk_at "gs") => `(tactic| repeat (first | dsimp only [a_lk0, a_lk1, a_lkS, a_V, a_vl, a_c, a_op, a_un, a_test, a_toB, a_tr, a_trB, a_trI, a_trN, a_and, a_or, a_not, a_andV, a_orV, a_notV, a_ifE, a_nil, a_cons, a_lst, a_tup, a_call, a_CB, a_BM, a_BM0, a_sl, a_part, a_partI, a_noPart, a_seq, a_next, a_brk, a_cont, a_asg, a_name, a_drop, a_ret, a_retN, a_if, a_aug, a_for, a_lc, a_jR1, a_jR2, a_jL, a_jT, a_rg1, a_rg2, a_gsub, a_yes, a_addI, a_addS, a_addR, a_iaddI, a_iaddS, a_sub, a_mulI, a_mulR, a_fdiv, a_mod, a_pow, a_shl, a_shr, a_lt, a_le, a_gt, a_ge, a_neg, a_EqI, a_EqS, a_EqB, a_EqNN, a_EqIN, a_EqNI, a_EqSN, a_EqNS, a_EqRR, a_EqRN, a_EqNR, a_NeI, a_NeS, a_NeB, a_NeNN, a_NeIN, a_NeNI, a_NeSN, a_NeNS, a_NeRR, a_NeRN, a_NeNR, a_isNN, a_isNI, a_isNS, a_isNB, a_isNR, a_notNN, a_notNI, a_notNS, a_notNB, a_notNR, a_intI, a_intB, a_abs, a_gnil, a_gcons, a_callS, a_raise0, a_tryAs, a_tryOnly, a_rev, a_jR3, a_fld, a_sfld, a_meth, a_methE, a_make, a_sfldaug, wipe, List.set, List.nil_append, List.cons_append] | with_reducible (first
  | (apply h_draw 0; (case h => assumption); (case e => with_unfolding_all rfl); (case e2 => with_unfolding_all rfl); (case h0 => (first | decide | omega | (simp only [List.length_map, List.length_append, List.length_take, List.length_drop, List.length_set]; omega))); (case h1 => (first | decide | omega | (simp only [List.length_map, List.length_append, List.length_take, List.length_drop, List.length_set]; omega))); (case h2 => (first | decide | omega | (simp only [List.length_map, List.length_append, List.length_take, List.length_drop, List.length_set]; omega))); (case hs => (first | assumption | (apply Or.inl; assumption) | (apply Or.inr; simp))))
  | (apply h_draw 1; (case h => assumption); (case e => with_unfolding_all rfl); (case e2 => with_unfolding_all rfl); (case h0 => (first | decide | omega | (simp only [List.length_map, List.length_append, List.length_take, List.length_drop, List.length_set]; omega))); (case h1 => (first | decide | omega | (simp only [List.length_map, List.length_append, List.length_take, List.length_drop, List.length_set]; omega))); (case h2 => (first | decide | omega | (simp only [List.length_map, List.length_append, List.length_take, List.length_drop, List.length_set]; omega))); (case hs => (first | assumption | (apply Or.inl; assumption) | (apply Or.inr; simp))))
  | (apply h_draw 2; (case h => assumption); (case e => with_unfolding_all rfl); (case e2 => with_unfolding_all rfl); (case h0 => (first | decide | omega | (simp only [List.length_map, List.length_append, List.length_take, List.length_drop, List.length_set]; omega))); (case h1 => (first | decide | omega | (simp only [List.length_map, List.length_append, List.length_take, List.length_drop, List.length_set]; omega))); (case h2 => (first | decide | omega | (simp only [List.length_map, List.length_append, List.length_take, List.length_drop, List.length_set]; omega))); (case hs => (first | assumption | (apply Or.inl; assumption) | (apply Or.inr; simp))))
  | (apply h_draw 3; (case h => assumption); (case e => with_unfolding_all rfl); (case e2 => with_unfolding_all rfl); (case h0 => (first | decide | omega | (simp only [List.length_map, List.length_append, List.length_take, List.length_drop, List.length_set]; omega))); (case h1 => (first | decide | omega | (simp only [List.length_map, List.length_append, List.length_take, List.length_drop, List.length_set]; omega))); (case h2 => (first | decide | omega | (simp only [List.length_map, List.length_append, List.length_take, List.length_drop, List.length_set]; omega))); (case hs => (first | assumption | (apply Or.inl; assumption) | (apply Or.inr; simp))))
  | (apply h_ixL 0; (case h => assumption); (case e => with_unfolding_all rfl); (case hx => with_unfolding_all rfl))
  | (apply h_ixL 1; (case h => assumption); (case e => with_unfolding_all rfl); (case hx => with_unfolding_all rfl))
  | (apply h_ixL 2; (case h => assumption); (case e => with_unfolding_all rfl); (case hx => with_unfolding_all rfl))
  | (apply h_ixL 3; (case h => assumption); (case e => with_unfolding_all rfl); (case hx => with_unfolding_all rfl))
  | (apply h_ixL 4; (case h => assumption); (case e => with_unfolding_all rfl); (case hx => with_unfolding_all rfl))
  | (apply h_ixTv; (case hd => (first | apply Im.int | apply Im.str | apply Im.bl | apply Im.non | assumption | (apply h_imm 0; (case h => assumption); (case e => with_unfolding_all rfl)) | (apply h_imm 1; (case h => assumption); (case e => with_unfolding_all rfl)) | (apply h_imm 2; (case h => assumption); (case e => with_unfolding_all rfl)) | (apply h_imm 3; (case h => assumption); (case e => with_unfolding_all rfl)) | (apply h_imm 4; (case h => assumption); (case e => with_unfolding_all rfl)) | (apply h_imm 5; (case h => assumption); (case e => with_unfolding_all rfl)))); (case h0 => (first | decide | omega | (simp only [List.length_map, List.length_append, List.length_take, List.length_drop, List.length_set]; omega))); (case hx => with_unfolding_all rfl); (case hv => with_unfolding_all rfl))
  | (apply h_slPre; (case h => assumption); (case hd => (first | apply Im.int | apply Im.str | apply Im.bl | apply Im.non | assumption | (apply h_imm 0; (case h => assumption); (case e => with_unfolding_all rfl)) | (apply h_imm 1; (case h => assumption); (case e => with_unfolding_all rfl)) | (apply h_imm 2; (case h => assumption); (case e => with_unfolding_all rfl)) | (apply h_imm 3; (case h => assumption); (case e => with_unfolding_all rfl)) | (apply h_imm 4; (case h => assumption); (case e => with_unfolding_all rfl)) | (apply h_imm 5; (case h => assumption); (case e => with_unfolding_all rfl)))); (case h0 => (first | decide | omega | (simp only [List.length_map, List.length_append, List.length_take, List.length_drop, List.length_set]; omega))))
  | (apply h_gtupV; (case h => (first | apply Im.int | apply Im.str | apply Im.bl | apply Im.non | assumption | (apply h_imm 0; (case h => assumption); (case e => with_unfolding_all rfl)) | (apply h_imm 1; (case h => assumption); (case e => with_unfolding_all rfl)) | (apply h_imm 2; (case h => assumption); (case e => with_unfolding_all rfl)) | (apply h_imm 3; (case h => assumption); (case e => with_unfolding_all rfl)) | (apply h_imm 4; (case h => assumption); (case e => with_unfolding_all rfl)) | (apply h_imm 5; (case h => assumption); (case e => with_unfolding_all rfl)))); (case hn => with_unfolding_all rfl); (case hv => with_unfolding_all rfl))
  | (apply h_isiB)
  | (apply h_eqr)
  | (apply iteT)
  | (apply h_nT)
  | (apply h_nF)
  | (apply iteF)
  | (apply h_brT)
  | (apply h_brF)
  | (apply h_brET)
  | (apply h_brEF)
  | (apply h_brNT)
  | (apply h_brNF)
  | (apply h_append 0; (case h => assumption); (case e => with_unfolding_all rfl); (case hs => (first | assumption | (apply Or.inl; assumption) | (apply Or.inr; simp))); (case z => (rw [sizeLine_eq]; ((try simp only [List.length_append, List.length_cons, List.length_nil, List.length_map, List.length_replicate, List.length_set, List.length_take, List.length_drop]) <;> omega))))
  | (apply h_append 1; (case h => assumption); (case e => with_unfolding_all rfl); (case hs => (first | assumption | (apply Or.inl; assumption) | (apply Or.inr; simp))); (case z => (rw [sizeLine_eq]; ((try simp only [List.length_append, List.length_cons, List.length_nil, List.length_map, List.length_replicate, List.length_set, List.length_take, List.length_drop]) <;> omega))))
  | (apply h_append 2; (case h => assumption); (case e => with_unfolding_all rfl); (case hs => (first | assumption | (apply Or.inl; assumption) | (apply Or.inr; simp))); (case z => (rw [sizeLine_eq]; ((try simp only [List.length_append, List.length_cons, List.length_nil, List.length_map, List.length_replicate, List.length_set, List.length_take, List.length_drop]) <;> omega))))
  | (apply h_append 3; (case h => assumption); (case e => with_unfolding_all rfl); (case hs => (first | assumption | (apply Or.inl; assumption) | (apply Or.inr; simp))); (case z => (rw [sizeLine_eq]; ((try simp only [List.length_append, List.length_cons, List.length_nil, List.length_map, List.length_replicate, List.length_set, List.length_take, List.length_drop]) <;> omega))))
  | (apply h_append 4; (case h => assumption); (case e => with_unfolding_all rfl); (case hs => (first | assumption | (apply Or.inl; assumption) | (apply Or.inr; simp))); (case z => (rw [sizeLine_eq]; ((try simp only [List.length_append, List.length_cons, List.length_nil, List.length_map, List.length_replicate, List.length_set, List.length_take, List.length_drop]) <;> omega))))
  | (apply h_appendD 0; (case h => assumption); (case e => with_unfolding_all rfl); (case hd => (first | apply Im.int | apply Im.str | apply Im.bl | apply Im.non | assumption | (apply h_imm 0; (case h => assumption); (case e => with_unfolding_all rfl)) | (apply h_imm 1; (case h => assumption); (case e => with_unfolding_all rfl)) | (apply h_imm 2; (case h => assumption); (case e => with_unfolding_all rfl)) | (apply h_imm 3; (case h => assumption); (case e => with_unfolding_all rfl)) | (apply h_imm 4; (case h => assumption); (case e => with_unfolding_all rfl)) | (apply h_imm 5; (case h => assumption); (case e => with_unfolding_all rfl)))); (case hs => (first | assumption | (apply Or.inl; assumption) | (apply Or.inr; simp))); (case z => (rw [sizeLine_eq]; ((try simp only [List.length_append, List.length_cons, List.length_nil, List.length_map, List.length_replicate, List.length_set, List.length_take, List.length_drop]) <;> omega))))
  | (apply h_appendD 1; (case h => assumption); (case e => with_unfolding_all rfl); (case hd => (first | apply Im.int | apply Im.str | apply Im.bl | apply Im.non | assumption | (apply h_imm 0; (case h => assumption); (case e => with_unfolding_all rfl)) | (apply h_imm 1; (case h => assumption); (case e => with_unfolding_all rfl)) | (apply h_imm 2; (case h => assumption); (case e => with_unfolding_all rfl)) | (apply h_imm 3; (case h => assumption); (case e => with_unfolding_all rfl)) | (apply h_imm 4; (case h => assumption); (case e => with_unfolding_all rfl)) | (apply h_imm 5; (case h => assumption); (case e => with_unfolding_all rfl)))); (case hs => (first | assumption | (apply Or.inl; assumption) | (apply Or.inr; simp))); (case z => (rw [sizeLine_eq]; ((try simp only [List.length_append, List.length_cons, List.length_nil, List.length_map, List.length_replicate, List.length_set, List.length_take, List.length_drop]) <;> omega))))
  | (apply h_appendD 2; (case h => assumption); (case e => with_unfolding_all rfl); (case hd => (first | apply Im.int | apply Im.str | apply Im.bl | apply Im.non | assumption | (apply h_imm 0; (case h => assumption); (case e => with_unfolding_all rfl)) | (apply h_imm 1; (case h => assumption); (case e => with_unfolding_all rfl)) | (apply h_imm 2; (case h => assumption); (case e => with_unfolding_all rfl)) | (apply h_imm 3; (case h => assumption); (case e => with_unfolding_all rfl)) | (apply h_imm 4; (case h => assumption); (case e => with_unfolding_all rfl)) | (apply h_imm 5; (case h => assumption); (case e => with_unfolding_all rfl)))); (case hs => (first | assumption | (apply Or.inl; assumption) | (apply Or.inr; simp))); (case z => (rw [sizeLine_eq]; ((try simp only [List.length_append, List.length_cons, List.length_nil, List.length_map, List.length_replicate, List.length_set, List.length_take, List.length_drop]) <;> omega))))
  | (apply h_appendD 3; (case h => assumption); (case e => with_unfolding_all rfl); (case hd => (first | apply Im.int | apply Im.str | apply Im.bl | apply Im.non | assumption | (apply h_imm 0; (case h => assumption); (case e => with_unfolding_all rfl)) | (apply h_imm 1; (case h => assumption); (case e => with_unfolding_all rfl)) | (apply h_imm 2; (case h => assumption); (case e => with_unfolding_all rfl)) | (apply h_imm 3; (case h => assumption); (case e => with_unfolding_all rfl)) | (apply h_imm 4; (case h => assumption); (case e => with_unfolding_all rfl)) | (apply h_imm 5; (case h => assumption); (case e => with_unfolding_all rfl)))); (case hs => (first | assumption | (apply Or.inl; assumption) | (apply Or.inr; simp))); (case z => (rw [sizeLine_eq]; ((try simp only [List.length_append, List.length_cons, List.length_nil, List.length_map, List.length_replicate, List.length_set, List.length_take, List.length_drop]) <;> omega))))
  | (apply h_appendD 4; (case h => assumption); (case e => with_unfolding_all rfl); (case hd => (first | apply Im.int | apply Im.str | apply Im.bl | apply Im.non | assumption | (apply h_imm 0; (case h => assumption); (case e => with_unfolding_all rfl)) | (apply h_imm 1; (case h => assumption); (case e => with_unfolding_all rfl)) | (apply h_imm 2; (case h => assumption); (case e => with_unfolding_all rfl)) | (apply h_imm 3; (case h => assumption); (case e => with_unfolding_all rfl)) | (apply h_imm 4; (case h => assumption); (case e => with_unfolding_all rfl)) | (apply h_imm 5; (case h => assumption); (case e => with_unfolding_all rfl)))); (case hs => (first | assumption | (apply Or.inl; assumption) | (apply Or.inr; simp))); (case z => (rw [sizeLine_eq]; ((try simp only [List.length_append, List.length_cons, List.length_nil, List.length_map, List.length_replicate, List.length_set, List.length_take, List.length_drop]) <;> omega))))
  | (apply h_tyL 0; (case h => assumption); (case e => with_unfolding_all rfl))
  | (apply h_tyL 1; (case h => assumption); (case e => with_unfolding_all rfl))
  | (apply h_tyL 2; (case h => assumption); (case e => with_unfolding_all rfl))
  | (apply h_tyL 3; (case h => assumption); (case e => with_unfolding_all rfl))
  | (apply h_tyL 4; (case h => assumption); (case e => with_unfolding_all rfl))
  | (apply h_tyD 0; (case h => assumption); (case e => with_unfolding_all rfl))
  | (apply h_tyD 1; (case h => assumption); (case e => with_unfolding_all rfl))
  | (apply h_tyD 2; (case h => assumption); (case e => with_unfolding_all rfl))
  | (apply h_tyD 3; (case h => assumption); (case e => with_unfolding_all rfl))
  | (apply h_tyD 4; (case h => assumption); (case e => with_unfolding_all rfl))
  | (apply h_tyS)
  | (apply h_lenL 0; (case h => assumption); (case e => with_unfolding_all rfl))
  | (apply h_lenL 1; (case h => assumption); (case e => with_unfolding_all rfl))
  | (apply h_lenL 2; (case h => assumption); (case e => with_unfolding_all rfl))
  | (apply h_lenL 3; (case h => assumption); (case e => with_unfolding_all rfl))
  | (apply h_lenL 4; (case h => assumption); (case e => with_unfolding_all rfl))
  | (apply h_lenD 0; (case h => assumption); (case e => with_unfolding_all rfl))
  | (apply h_lenD 1; (case h => assumption); (case e => with_unfolding_all rfl))
  | (apply h_lenD 2; (case h => assumption); (case e => with_unfolding_all rfl))
  | (apply h_lenD 3; (case h => assumption); (case e => with_unfolding_all rfl))
  | (apply h_lenD 4; (case h => assumption); (case e => with_unfolding_all rfl))
  | (apply h_setL 0; (case h => assumption); (case e => with_unfolding_all rfl); (case hs => (first | assumption | (apply Or.inl; assumption) | (apply Or.inr; simp))); (case hi => with_unfolding_all rfl))
  | (apply h_setL 1; (case h => assumption); (case e => with_unfolding_all rfl); (case hs => (first | assumption | (apply Or.inl; assumption) | (apply Or.inr; simp))); (case hi => with_unfolding_all rfl))
  | (apply h_setL 2; (case h => assumption); (case e => with_unfolding_all rfl); (case hs => (first | assumption | (apply Or.inl; assumption) | (apply Or.inr; simp))); (case hi => with_unfolding_all rfl))
  | (apply h_setL 3; (case h => assumption); (case e => with_unfolding_all rfl); (case hs => (first | assumption | (apply Or.inl; assumption) | (apply Or.inr; simp))); (case hi => with_unfolding_all rfl))
  | (apply h_setL 4; (case h => assumption); (case e => with_unfolding_all rfl); (case hs => (first | assumption | (apply Or.inl; assumption) | (apply Or.inr; simp))); (case hi => with_unfolding_all rfl))
  | (apply h_isLn 0; (case h => assumption); (case e => with_unfolding_all rfl))
  | (apply h_isLn 1; (case h => assumption); (case e => with_unfolding_all rfl))
  | (apply h_isLn 2; (case h => assumption); (case e => with_unfolding_all rfl))
  | (apply h_isLn 3; (case h => assumption); (case e => with_unfolding_all rfl))
  | (apply h_isLn 4; (case h => assumption); (case e => with_unfolding_all rfl))
  | (apply h_isLd 0; (case h => assumption); (case e => with_unfolding_all rfl))
  | (apply h_isLd 1; (case h => assumption); (case e => with_unfolding_all rfl))
  | (apply h_isLd 2; (case h => assumption); (case e => with_unfolding_all rfl))
  | (apply h_isLd 3; (case h => assumption); (case e => with_unfolding_all rfl))
  | (apply h_isLd 4; (case h => assumption); (case e => with_unfolding_all rfl))
  | (apply h_isT; (case h => (first | apply Im.int | apply Im.str | apply Im.bl | apply Im.non | assumption | (apply h_imm 0; (case h => assumption); (case e => with_unfolding_all rfl)) | (apply h_imm 1; (case h => assumption); (case e => with_unfolding_all rfl)) | (apply h_imm 2; (case h => assumption); (case e => with_unfolding_all rfl)) | (apply h_imm 3; (case h => assumption); (case e => with_unfolding_all rfl)) | (apply h_imm 4; (case h => assumption); (case e => with_unfolding_all rfl)) | (apply h_imm 5; (case h => assumption); (case e => with_unfolding_all rfl)))))
  | (apply h_tupOf 0; (case h => assumption); (case e => with_unfolding_all rfl))
  | (apply h_tupOf 1; (case h => assumption); (case e => with_unfolding_all rfl))
  | (apply h_tupOf 2; (case h => assumption); (case e => with_unfolding_all rfl))
  | (apply h_tupOf 3; (case h => assumption); (case e => with_unfolding_all rfl))
  | (apply h_tupOf 4; (case h => assumption); (case e => with_unfolding_all rfl))
  | (apply h_listOf 0; (case h => assumption); (case e => with_unfolding_all rfl))
  | (apply h_listOf 1; (case h => assumption); (case e => with_unfolding_all rfl))
  | (apply h_listOf 2; (case h => assumption); (case e => with_unfolding_all rfl))
  | (apply h_listOf 3; (case h => assumption); (case e => with_unfolding_all rfl))
  | (apply h_listOf 4; (case h => assumption); (case e => with_unfolding_all rfl))
  | (apply h_lst; (case h => assumption); (case z => (rw [sizeLine_eq]; ((try simp only [List.length_append, List.length_cons, List.length_nil, List.length_map, List.length_replicate, List.length_set, List.length_take, List.length_drop]) <;> omega))))
  | (apply h_tup; (case h => assumption); (case z => (rw [sizeLine_eq]; ((try simp only [List.length_append, List.length_cons, List.length_nil, List.length_map, List.length_replicate, List.length_set, List.length_take, List.length_drop]) <;> omega))); (case hd => repeat (first | apply Ims.nil | (apply Ims.cons; (focus (first | apply Im.int | apply Im.str | apply Im.bl | apply Im.non | assumption | (apply h_imm 0; (case h => assumption); (case e => with_unfolding_all rfl)) | (apply h_imm 1; (case h => assumption); (case e => with_unfolding_all rfl)) | (apply h_imm 2; (case h => assumption); (case e => with_unfolding_all rfl)) | (apply h_imm 3; (case h => assumption); (case e => with_unfolding_all rfl)) | (apply h_imm 4; (case h => assumption); (case e => with_unfolding_all rfl)) | (apply h_imm 5; (case h => assumption); (case e => with_unfolding_all rfl))))))))
  | (apply And.intro; (case left => (first | decide | omega | (simp only [List.length_map, List.length_append, List.length_take, List.length_drop, List.length_set]; omega))))
  | (apply h_mr; (case h1 => (first | decide | omega | (simp only [List.length_map, List.length_append, List.length_take, List.length_drop, List.length_set]; omega))); (case h2 => (first | decide | omega | (simp only [List.length_map, List.length_append, List.length_take, List.length_drop, List.length_set]; omega))))
  | (apply h_ml; (case h1 => (first | decide | omega | (simp only [List.length_map, List.length_append, List.length_take, List.length_drop, List.length_set]; omega))); (case h2 => (first | decide | omega | (simp only [List.length_map, List.length_append, List.length_take, List.length_drop, List.length_set]; omega))))
  | (apply h_dv; (case h1 => (first | decide | omega | (simp only [List.length_map, List.length_append, List.length_take, List.length_drop, List.length_set]; omega))); (case h2 => (first | decide | omega | (simp only [List.length_map, List.length_append, List.length_take, List.length_drop, List.length_set]; omega))))
  | (apply h_pw; (case h1 => (first | decide | omega | (simp only [List.length_map, List.length_append, List.length_take, List.length_drop, List.length_set]; omega))); (case h2 => (first | decide | omega | (simp only [List.length_map, List.length_append, List.length_take, List.length_drop, List.length_set]; omega))); (case h3 => decide))
  | (apply And.intro; (case left => (rw [sizeLine_eq]; ((try simp only [List.length_append, List.length_cons, List.length_nil, List.length_map, List.length_replicate, List.length_set, List.length_take, List.length_drop]) <;> omega))))
  | (apply h_wnum 0; (case h => assumption); (case e => with_unfolding_all rfl); (case h0 => (first | decide | omega | (simp only [List.length_map, List.length_append, List.length_take, List.length_drop, List.length_set]; omega))); (case h1 => (first | decide | omega | (simp only [List.length_map, List.length_append, List.length_take, List.length_drop, List.length_set]; omega))); (case h2 => (first | decide | omega | (simp only [List.length_map, List.length_append, List.length_take, List.length_drop, List.length_set]; omega))); (case h3 => (first | decide | omega | (simp only [List.length_map, List.length_append, List.length_take, List.length_drop, List.length_set]; omega))))
  | (apply h_wnum 1; (case h => assumption); (case e => with_unfolding_all rfl); (case h0 => (first | decide | omega | (simp only [List.length_map, List.length_append, List.length_take, List.length_drop, List.length_set]; omega))); (case h1 => (first | decide | omega | (simp only [List.length_map, List.length_append, List.length_take, List.length_drop, List.length_set]; omega))); (case h2 => (first | decide | omega | (simp only [List.length_map, List.length_append, List.length_take, List.length_drop, List.length_set]; omega))); (case h3 => (first | decide | omega | (simp only [List.length_map, List.length_append, List.length_take, List.length_drop, List.length_set]; omega))))
  | (apply h_wnum 2; (case h => assumption); (case e => with_unfolding_all rfl); (case h0 => (first | decide | omega | (simp only [List.length_map, List.length_append, List.length_take, List.length_drop, List.length_set]; omega))); (case h1 => (first | decide | omega | (simp only [List.length_map, List.length_append, List.length_take, List.length_drop, List.length_set]; omega))); (case h2 => (first | decide | omega | (simp only [List.length_map, List.length_append, List.length_take, List.length_drop, List.length_set]; omega))); (case h3 => (first | decide | omega | (simp only [List.length_map, List.length_append, List.length_take, List.length_drop, List.length_set]; omega))))
  | (apply h_rdword 0; (case h => assumption); (case e => with_unfolding_all rfl); (case h0 => (first | decide | omega | (simp only [List.length_map, List.length_append, List.length_take, List.length_drop, List.length_set]; omega))); (case h1 => (first | decide | omega | (simp only [List.length_map, List.length_append, List.length_take, List.length_drop, List.length_set]; omega))); (case h2 => (first | decide | omega | (simp only [List.length_map, List.length_append, List.length_take, List.length_drop, List.length_set]; omega))); (case h3 => (first | decide | omega | (simp only [List.length_map, List.length_append, List.length_take, List.length_drop, List.length_set]; omega))))
  | (apply h_rdword 1; (case h => assumption); (case e => with_unfolding_all rfl); (case h0 => (first | decide | omega | (simp only [List.length_map, List.length_append, List.length_take, List.length_drop, List.length_set]; omega))); (case h1 => (first | decide | omega | (simp only [List.length_map, List.length_append, List.length_take, List.length_drop, List.length_set]; omega))); (case h2 => (first | decide | omega | (simp only [List.length_map, List.length_append, List.length_take, List.length_drop, List.length_set]; omega))); (case h3 => (first | decide | omega | (simp only [List.length_map, List.length_append, List.length_take, List.length_drop, List.length_set]; omega))))
  | (apply h_rdword 2; (case h => assumption); (case e => with_unfolding_all rfl); (case h0 => (first | decide | omega | (simp only [List.length_map, List.length_append, List.length_take, List.length_drop, List.length_set]; omega))); (case h1 => (first | decide | omega | (simp only [List.length_map, List.length_append, List.length_take, List.length_drop, List.length_set]; omega))); (case h2 => (first | decide | omega | (simp only [List.length_map, List.length_append, List.length_take, List.length_drop, List.length_set]; omega))); (case h3 => (first | decide | omega | (simp only [List.length_map, List.length_append, List.length_take, List.length_drop, List.length_set]; omega))))
  | (apply h_rslot 0; (case h => assumption); (case e => with_unfolding_all rfl); (case h0 => (first | decide | omega | (simp only [List.length_map, List.length_append, List.length_take, List.length_drop, List.length_set]; omega))); (case h1 => (first | decide | omega | (simp only [List.length_map, List.length_append, List.length_take, List.length_drop, List.length_set]; omega))); (case h2 => (first | decide | omega | (simp only [List.length_map, List.length_append, List.length_take, List.length_drop, List.length_set]; omega))); (case h3 => (first | decide | omega | (simp only [List.length_map, List.length_append, List.length_take, List.length_drop, List.length_set]; omega))); (case h4 => (first | decide | omega | (simp only [List.length_map, List.length_append, List.length_take, List.length_drop, List.length_set]; omega))); (case h5 => (first | decide | omega | (simp only [List.length_map, List.length_append, List.length_take, List.length_drop, List.length_set]; omega))); (case h6 => (first | decide | omega | (simp only [List.length_map, List.length_append, List.length_take, List.length_drop, List.length_set]; omega))); (case h7 => (first | decide | omega | (simp only [List.length_map, List.length_append, List.length_take, List.length_drop, List.length_set]; omega))))
  | (apply h_rslot 1; (case h => assumption); (case e => with_unfolding_all rfl); (case h0 => (first | decide | omega | (simp only [List.length_map, List.length_append, List.length_take, List.length_drop, List.length_set]; omega))); (case h1 => (first | decide | omega | (simp only [List.length_map, List.length_append, List.length_take, List.length_drop, List.length_set]; omega))); (case h2 => (first | decide | omega | (simp only [List.length_map, List.length_append, List.length_take, List.length_drop, List.length_set]; omega))); (case h3 => (first | decide | omega | (simp only [List.length_map, List.length_append, List.length_take, List.length_drop, List.length_set]; omega))); (case h4 => (first | decide | omega | (simp only [List.length_map, List.length_append, List.length_take, List.length_drop, List.length_set]; omega))); (case h5 => (first | decide | omega | (simp only [List.length_map, List.length_append, List.length_take, List.length_drop, List.length_set]; omega))); (case h6 => (first | decide | omega | (simp only [List.length_map, List.length_append, List.length_take, List.length_drop, List.length_set]; omega))); (case h7 => (first | decide | omega | (simp only [List.length_map, List.length_append, List.length_take, List.length_drop, List.length_set]; omega))))
  | (apply h_rslot 2; (case h => assumption); (case e => with_unfolding_all rfl); (case h0 => (first | decide | omega | (simp only [List.length_map, List.length_append, List.length_take, List.length_drop, List.length_set]; omega))); (case h1 => (first | decide | omega | (simp only [List.length_map, List.length_append, List.length_take, List.length_drop, List.length_set]; omega))); (case h2 => (first | decide | omega | (simp only [List.length_map, List.length_append, List.length_take, List.length_drop, List.length_set]; omega))); (case h3 => (first | decide | omega | (simp only [List.length_map, List.length_append, List.length_take, List.length_drop, List.length_set]; omega))); (case h4 => (first | decide | omega | (simp only [List.length_map, List.length_append, List.length_take, List.length_drop, List.length_set]; omega))); (case h5 => (first | decide | omega | (simp only [List.length_map, List.length_append, List.length_take, List.length_drop, List.length_set]; omega))); (case h6 => (first | decide | omega | (simp only [List.length_map, List.length_append, List.length_take, List.length_drop, List.length_set]; omega))); (case h7 => (first | decide | omega | (simp only [List.length_map, List.length_append, List.length_take, List.length_drop, List.length_set]; omega))))
  | (apply h_put 0; (case h => assumption); (case e => with_unfolding_all rfl); (case h0 => (first | decide | omega | (simp only [List.length_map, List.length_append, List.length_take, List.length_drop, List.length_set]; omega))); (case h1 => (first | decide | omega | (simp only [List.length_map, List.length_append, List.length_take, List.length_drop, List.length_set]; omega))); (case h2 => (first | decide | omega | (simp only [List.length_map, List.length_append, List.length_take, List.length_drop, List.length_set]; omega))); (case h3 => (first | decide | omega | (simp only [List.length_map, List.length_append, List.length_take, List.length_drop, List.length_set]; omega))); (case hs => (first | assumption | (apply Or.inl; assumption) | (apply Or.inr; simp))))
  | (apply h_put 1; (case h => assumption); (case e => with_unfolding_all rfl); (case h0 => (first | decide | omega | (simp only [List.length_map, List.length_append, List.length_take, List.length_drop, List.length_set]; omega))); (case h1 => (first | decide | omega | (simp only [List.length_map, List.length_append, List.length_take, List.length_drop, List.length_set]; omega))); (case h2 => (first | decide | omega | (simp only [List.length_map, List.length_append, List.length_take, List.length_drop, List.length_set]; omega))); (case h3 => (first | decide | omega | (simp only [List.length_map, List.length_append, List.length_take, List.length_drop, List.length_set]; omega))); (case hs => (first | assumption | (apply Or.inl; assumption) | (apply Or.inr; simp))))
  | (apply h_put 2; (case h => assumption); (case e => with_unfolding_all rfl); (case h0 => (first | decide | omega | (simp only [List.length_map, List.length_append, List.length_take, List.length_drop, List.length_set]; omega))); (case h1 => (first | decide | omega | (simp only [List.length_map, List.length_append, List.length_take, List.length_drop, List.length_set]; omega))); (case h2 => (first | decide | omega | (simp only [List.length_map, List.length_append, List.length_take, List.length_drop, List.length_set]; omega))); (case h3 => (first | decide | omega | (simp only [List.length_map, List.length_append, List.length_take, List.length_drop, List.length_set]; omega))); (case hs => (first | assumption | (apply Or.inl; assumption) | (apply Or.inr; simp))))
  | (apply h_wrword 0; (case h => assumption); (case e => with_unfolding_all rfl); (case h0 => (first | decide | omega | (simp only [List.length_map, List.length_append, List.length_take, List.length_drop, List.length_set]; omega))); (case h1 => (first | decide | omega | (simp only [List.length_map, List.length_append, List.length_take, List.length_drop, List.length_set]; omega))); (case h2 => (first | decide | omega | (simp only [List.length_map, List.length_append, List.length_take, List.length_drop, List.length_set]; omega))); (case h3 => (first | decide | omega | (simp only [List.length_map, List.length_append, List.length_take, List.length_drop, List.length_set]; omega))); (case hs => (first | assumption | (apply Or.inl; assumption) | (apply Or.inr; simp))))
  | (apply h_wrword 1; (case h => assumption); (case e => with_unfolding_all rfl); (case h0 => (first | decide | omega | (simp only [List.length_map, List.length_append, List.length_take, List.length_drop, List.length_set]; omega))); (case h1 => (first | decide | omega | (simp only [List.length_map, List.length_append, List.length_take, List.length_drop, List.length_set]; omega))); (case h2 => (first | decide | omega | (simp only [List.length_map, List.length_append, List.length_take, List.length_drop, List.length_set]; omega))); (case h3 => (first | decide | omega | (simp only [List.length_map, List.length_append, List.length_take, List.length_drop, List.length_set]; omega))); (case hs => (first | assumption | (apply Or.inl; assumption) | (apply Or.inr; simp))))
  | (apply h_wrword 2; (case h => assumption); (case e => with_unfolding_all rfl); (case h0 => (first | decide | omega | (simp only [List.length_map, List.length_append, List.length_take, List.length_drop, List.length_set]; omega))); (case h1 => (first | decide | omega | (simp only [List.length_map, List.length_append, List.length_take, List.length_drop, List.length_set]; omega))); (case h2 => (first | decide | omega | (simp only [List.length_map, List.length_append, List.length_take, List.length_drop, List.length_set]; omega))); (case h3 => (first | decide | omega | (simp only [List.length_map, List.length_append, List.length_take, List.length_drop, List.length_set]; omega))); (case hs => (first | assumption | (apply Or.inl; assumption) | (apply Or.inr; simp))))
  | (apply h_power; (case h0 => (first | decide | omega | (simp only [List.length_map, List.length_append, List.length_take, List.length_drop, List.length_set]; omega))); (case h1 => (first | decide | omega | (simp only [List.length_map, List.length_append, List.length_take, List.length_drop, List.length_set]; omega))))
  | (apply h_bounds; (case h => assumption); (case h0 => (first | decide | omega | (simp only [List.length_map, List.length_append, List.length_take, List.length_drop, List.length_set]; omega))); (case h1 => (first | decide | omega | (simp only [List.length_map, List.length_append, List.length_take, List.length_drop, List.length_set]; omega))))
  | (apply h_fld 0; (case h => assumption); (case e => with_unfolding_all rfl); (case c => assumption); (case hf => (repeat (first | apply List.mem_cons_self | apply List.mem_cons_of_mem))); (case hl => (first | exact Wk_kind | exact Wk_source | exact Wk_target | exact Wk_value | exact Wk_done | exact Wk_source_bytes | exact Wk_target_bytes | exact Wk_result | exact Wk_new)))
  | (apply h_fld 1; (case h => assumption); (case e => with_unfolding_all rfl); (case c => assumption); (case hf => (repeat (first | apply List.mem_cons_self | apply List.mem_cons_of_mem))); (case hl => (first | exact Wk_kind | exact Wk_source | exact Wk_target | exact Wk_value | exact Wk_done | exact Wk_source_bytes | exact Wk_target_bytes | exact Wk_result | exact Wk_new)))
  | (apply h_fld 2; (case h => assumption); (case e => with_unfolding_all rfl); (case c => assumption); (case hf => (repeat (first | apply List.mem_cons_self | apply List.mem_cons_of_mem))); (case hl => (first | exact Wk_kind | exact Wk_source | exact Wk_target | exact Wk_value | exact Wk_done | exact Wk_source_bytes | exact Wk_target_bytes | exact Wk_result | exact Wk_new)))
  | (apply h_fld 3; (case h => assumption); (case e => with_unfolding_all rfl); (case c => assumption); (case hf => (repeat (first | apply List.mem_cons_self | apply List.mem_cons_of_mem))); (case hl => (first | exact Wk_kind | exact Wk_source | exact Wk_target | exact Wk_value | exact Wk_done | exact Wk_source_bytes | exact Wk_target_bytes | exact Wk_result | exact Wk_new)))
  | (apply h_sfld 0; (case h => assumption); (case e => with_unfolding_all rfl); (case c => assumption); (case hf => (repeat (first | apply List.mem_cons_self | apply List.mem_cons_of_mem))); (case hs => (first | assumption | (apply Or.inl; assumption) | (apply Or.inr; simp))); (case hl => (with_unfolding_all exact Nat.le_of_ble_eq_true rfl)); (case hp => (first | exact Wk_put_kind | exact Wk_put_source | exact Wk_put_target | exact Wk_put_value | exact Wk_put_done | exact Wk_put_source_bytes | exact Wk_put_target_bytes | exact Wk_put_result | exact Wk_put_new | exact Wk_new_kind | exact Wk_new_source | exact Wk_new_target | exact Wk_new_value | exact Wk_new_done | exact Wk_new_source_bytes | exact Wk_new_target_bytes | exact Wk_new_result | exact Wk_new_new)))
  | (apply h_sfld 1; (case h => assumption); (case e => with_unfolding_all rfl); (case c => assumption); (case hf => (repeat (first | apply List.mem_cons_self | apply List.mem_cons_of_mem))); (case hs => (first | assumption | (apply Or.inl; assumption) | (apply Or.inr; simp))); (case hl => (with_unfolding_all exact Nat.le_of_ble_eq_true rfl)); (case hp => (first | exact Wk_put_kind | exact Wk_put_source | exact Wk_put_target | exact Wk_put_value | exact Wk_put_done | exact Wk_put_source_bytes | exact Wk_put_target_bytes | exact Wk_put_result | exact Wk_put_new | exact Wk_new_kind | exact Wk_new_source | exact Wk_new_target | exact Wk_new_value | exact Wk_new_done | exact Wk_new_source_bytes | exact Wk_new_target_bytes | exact Wk_new_result | exact Wk_new_new)))
  | (apply h_sfld 2; (case h => assumption); (case e => with_unfolding_all rfl); (case c => assumption); (case hf => (repeat (first | apply List.mem_cons_self | apply List.mem_cons_of_mem))); (case hs => (first | assumption | (apply Or.inl; assumption) | (apply Or.inr; simp))); (case hl => (with_unfolding_all exact Nat.le_of_ble_eq_true rfl)); (case hp => (first | exact Wk_put_kind | exact Wk_put_source | exact Wk_put_target | exact Wk_put_value | exact Wk_put_done | exact Wk_put_source_bytes | exact Wk_put_target_bytes | exact Wk_put_result | exact Wk_put_new | exact Wk_new_kind | exact Wk_new_source | exact Wk_new_target | exact Wk_new_value | exact Wk_new_done | exact Wk_new_source_bytes | exact Wk_new_target_bytes | exact Wk_new_result | exact Wk_new_new)))
  | (apply h_sfld 3; (case h => assumption); (case e => with_unfolding_all rfl); (case c => assumption); (case hf => (repeat (first | apply List.mem_cons_self | apply List.mem_cons_of_mem))); (case hs => (first | assumption | (apply Or.inl; assumption) | (apply Or.inr; simp))); (case hl => (with_unfolding_all exact Nat.le_of_ble_eq_true rfl)); (case hp => (first | exact Wk_put_kind | exact Wk_put_source | exact Wk_put_target | exact Wk_put_value | exact Wk_put_done | exact Wk_put_source_bytes | exact Wk_put_target_bytes | exact Wk_put_result | exact Wk_put_new | exact Wk_new_kind | exact Wk_new_source | exact Wk_new_target | exact Wk_new_value | exact Wk_new_done | exact Wk_new_source_bytes | exact Wk_new_target_bytes | exact Wk_new_result | exact Wk_new_new)))
  | (apply h_faug 0; (case h => assumption); (case e => with_unfolding_all rfl); (case c => assumption); (case hf => (repeat (first | apply List.mem_cons_self | apply List.mem_cons_of_mem))); (case hl => (first | exact Wk_kind | exact Wk_source | exact Wk_target | exact Wk_value | exact Wk_done | exact Wk_source_bytes | exact Wk_target_bytes | exact Wk_result | exact Wk_new)))
  | (apply h_faug 1; (case h => assumption); (case e => with_unfolding_all rfl); (case c => assumption); (case hf => (repeat (first | apply List.mem_cons_self | apply List.mem_cons_of_mem))); (case hl => (first | exact Wk_kind | exact Wk_source | exact Wk_target | exact Wk_value | exact Wk_done | exact Wk_source_bytes | exact Wk_target_bytes | exact Wk_result | exact Wk_new)))
  | (apply h_faug 2; (case h => assumption); (case e => with_unfolding_all rfl); (case c => assumption); (case hf => (repeat (first | apply List.mem_cons_self | apply List.mem_cons_of_mem))); (case hl => (first | exact Wk_kind | exact Wk_source | exact Wk_target | exact Wk_value | exact Wk_done | exact Wk_source_bytes | exact Wk_target_bytes | exact Wk_result | exact Wk_new)))
  | (apply h_faug 3; (case h => assumption); (case e => with_unfolding_all rfl); (case c => assumption); (case hf => (repeat (first | apply List.mem_cons_self | apply List.mem_cons_of_mem))); (case hl => (first | exact Wk_kind | exact Wk_source | exact Wk_target | exact Wk_value | exact Wk_done | exact Wk_source_bytes | exact Wk_target_bytes | exact Wk_result | exact Wk_new)))
  | (apply h_faug2 0; (case h => assumption); (case e => with_unfolding_all rfl); (case hs => (first | assumption | (apply Or.inl; assumption) | (apply Or.inr; simp))); (case hl => (with_unfolding_all exact Nat.le_of_ble_eq_true rfl)); (case hp => (first | exact Wk_put_kind | exact Wk_put_source | exact Wk_put_target | exact Wk_put_value | exact Wk_put_done | exact Wk_put_source_bytes | exact Wk_put_target_bytes | exact Wk_put_result | exact Wk_put_new | exact Wk_new_kind | exact Wk_new_source | exact Wk_new_target | exact Wk_new_value | exact Wk_new_done | exact Wk_new_source_bytes | exact Wk_new_target_bytes | exact Wk_new_result | exact Wk_new_new)))
  | (apply h_faug2 1; (case h => assumption); (case e => with_unfolding_all rfl); (case hs => (first | assumption | (apply Or.inl; assumption) | (apply Or.inr; simp))); (case hl => (with_unfolding_all exact Nat.le_of_ble_eq_true rfl)); (case hp => (first | exact Wk_put_kind | exact Wk_put_source | exact Wk_put_target | exact Wk_put_value | exact Wk_put_done | exact Wk_put_source_bytes | exact Wk_put_target_bytes | exact Wk_put_result | exact Wk_put_new | exact Wk_new_kind | exact Wk_new_source | exact Wk_new_target | exact Wk_new_value | exact Wk_new_done | exact Wk_new_source_bytes | exact Wk_new_target_bytes | exact Wk_new_result | exact Wk_new_new)))
  | (apply h_faug2 2; (case h => assumption); (case e => with_unfolding_all rfl); (case hs => (first | assumption | (apply Or.inl; assumption) | (apply Or.inr; simp))); (case hl => (with_unfolding_all exact Nat.le_of_ble_eq_true rfl)); (case hp => (first | exact Wk_put_kind | exact Wk_put_source | exact Wk_put_target | exact Wk_put_value | exact Wk_put_done | exact Wk_put_source_bytes | exact Wk_put_target_bytes | exact Wk_put_result | exact Wk_put_new | exact Wk_new_kind | exact Wk_new_source | exact Wk_new_target | exact Wk_new_value | exact Wk_new_done | exact Wk_new_source_bytes | exact Wk_new_target_bytes | exact Wk_new_result | exact Wk_new_new)))
  | (apply h_faug2 3; (case h => assumption); (case e => with_unfolding_all rfl); (case hs => (first | assumption | (apply Or.inl; assumption) | (apply Or.inr; simp))); (case hl => (with_unfolding_all exact Nat.le_of_ble_eq_true rfl)); (case hp => (first | exact Wk_put_kind | exact Wk_put_source | exact Wk_put_target | exact Wk_put_value | exact Wk_put_done | exact Wk_put_source_bytes | exact Wk_put_target_bytes | exact Wk_put_result | exact Wk_put_new | exact Wk_new_kind | exact Wk_new_source | exact Wk_new_target | exact Wk_new_value | exact Wk_new_done | exact Wk_new_source_bytes | exact Wk_new_target_bytes | exact Wk_new_result | exact Wk_new_new)))
  | (apply h_meth 0; (case h => assumption); (case e => with_unfolding_all rfl); (case hl => (first | exact Wk_no_written | exact Wk_no_source_reads | exact Wk_no_target_reads | exact Wk_no_writes | exact Wk_no_reads | exact Wk_no_total | exact Wk_no_read_source | exact Wk_no_make_new | exact Wk_no_target_place | exact Wk_no_step | exact Wk_no_write | exact Wk_no_finish)))
  | (apply h_meth 1; (case h => assumption); (case e => with_unfolding_all rfl); (case hl => (first | exact Wk_no_written | exact Wk_no_source_reads | exact Wk_no_target_reads | exact Wk_no_writes | exact Wk_no_reads | exact Wk_no_total | exact Wk_no_read_source | exact Wk_no_make_new | exact Wk_no_target_place | exact Wk_no_step | exact Wk_no_write | exact Wk_no_finish)))
  | (apply h_meth 2; (case h => assumption); (case e => with_unfolding_all rfl); (case hl => (first | exact Wk_no_written | exact Wk_no_source_reads | exact Wk_no_target_reads | exact Wk_no_writes | exact Wk_no_reads | exact Wk_no_total | exact Wk_no_read_source | exact Wk_no_make_new | exact Wk_no_target_place | exact Wk_no_step | exact Wk_no_write | exact Wk_no_finish)))
  | (apply h_meth 3; (case h => assumption); (case e => with_unfolding_all rfl); (case hl => (first | exact Wk_no_written | exact Wk_no_source_reads | exact Wk_no_target_reads | exact Wk_no_writes | exact Wk_no_reads | exact Wk_no_total | exact Wk_no_read_source | exact Wk_no_make_new | exact Wk_no_target_place | exact Wk_no_step | exact Wk_no_write | exact Wk_no_finish)))
  | (apply h_ninT; (case h => (first | apply Im.int | apply Im.str | apply Im.bl | apply Im.non | assumption | (apply h_imm 0; (case h => assumption); (case e => with_unfolding_all rfl)) | (apply h_imm 1; (case h => assumption); (case e => with_unfolding_all rfl)) | (apply h_imm 2; (case h => assumption); (case e => with_unfolding_all rfl)) | (apply h_imm 3; (case h => assumption); (case e => with_unfolding_all rfl)) | (apply h_imm 4; (case h => assumption); (case e => with_unfolding_all rfl)) | (apply h_imm 5; (case h => assumption); (case e => with_unfolding_all rfl)))); (case hv => with_unfolding_all rfl); (case f1 => with_unfolding_all rfl); (case f2 => with_unfolding_all rfl))
  | (apply h_inT; (case h => (first | apply Im.int | apply Im.str | apply Im.bl | apply Im.non | assumption | (apply h_imm 0; (case h => assumption); (case e => with_unfolding_all rfl)) | (apply h_imm 1; (case h => assumption); (case e => with_unfolding_all rfl)) | (apply h_imm 2; (case h => assumption); (case e => with_unfolding_all rfl)) | (apply h_imm 3; (case h => assumption); (case e => with_unfolding_all rfl)) | (apply h_imm 4; (case h => assumption); (case e => with_unfolding_all rfl)) | (apply h_imm 5; (case h => assumption); (case e => with_unfolding_all rfl)))); (case hv => with_unfolding_all rfl); (case f1 => with_unfolding_all rfl); (case f2 => with_unfolding_all rfl))
  | (apply h_Wwri; (case h => assumption); (case i1 => (first | apply Im.int | apply Im.str | apply Im.bl | apply Im.non | assumption | (apply h_imm 0; (case h => assumption); (case e => with_unfolding_all rfl)) | (apply h_imm 1; (case h => assumption); (case e => with_unfolding_all rfl)) | (apply h_imm 2; (case h => assumption); (case e => with_unfolding_all rfl)) | (apply h_imm 3; (case h => assumption); (case e => with_unfolding_all rfl)) | (apply h_imm 4; (case h => assumption); (case e => with_unfolding_all rfl)) | (apply h_imm 5; (case h => assumption); (case e => with_unfolding_all rfl)))); (case i2 => (first | apply Im.int | apply Im.str | apply Im.bl | apply Im.non | assumption | (apply h_imm 0; (case h => assumption); (case e => with_unfolding_all rfl)) | (apply h_imm 1; (case h => assumption); (case e => with_unfolding_all rfl)) | (apply h_imm 2; (case h => assumption); (case e => with_unfolding_all rfl)) | (apply h_imm 3; (case h => assumption); (case e => with_unfolding_all rfl)) | (apply h_imm 4; (case h => assumption); (case e => with_unfolding_all rfl)) | (apply h_imm 5; (case h => assumption); (case e => with_unfolding_all rfl)))))
  | (apply h_Wsrd; (case h => assumption); (case i1 => (first | apply Im.int | apply Im.str | apply Im.bl | apply Im.non | assumption | (apply h_imm 0; (case h => assumption); (case e => with_unfolding_all rfl)) | (apply h_imm 1; (case h => assumption); (case e => with_unfolding_all rfl)) | (apply h_imm 2; (case h => assumption); (case e => with_unfolding_all rfl)) | (apply h_imm 3; (case h => assumption); (case e => with_unfolding_all rfl)) | (apply h_imm 4; (case h => assumption); (case e => with_unfolding_all rfl)) | (apply h_imm 5; (case h => assumption); (case e => with_unfolding_all rfl)))); (case i2 => (first | apply Im.int | apply Im.str | apply Im.bl | apply Im.non | assumption | (apply h_imm 0; (case h => assumption); (case e => with_unfolding_all rfl)) | (apply h_imm 1; (case h => assumption); (case e => with_unfolding_all rfl)) | (apply h_imm 2; (case h => assumption); (case e => with_unfolding_all rfl)) | (apply h_imm 3; (case h => assumption); (case e => with_unfolding_all rfl)) | (apply h_imm 4; (case h => assumption); (case e => with_unfolding_all rfl)) | (apply h_imm 5; (case h => assumption); (case e => with_unfolding_all rfl)))))
  | (apply h_Wtrd; (case h => assumption); (case i1 => (first | apply Im.int | apply Im.str | apply Im.bl | apply Im.non | assumption | (apply h_imm 0; (case h => assumption); (case e => with_unfolding_all rfl)) | (apply h_imm 1; (case h => assumption); (case e => with_unfolding_all rfl)) | (apply h_imm 2; (case h => assumption); (case e => with_unfolding_all rfl)) | (apply h_imm 3; (case h => assumption); (case e => with_unfolding_all rfl)) | (apply h_imm 4; (case h => assumption); (case e => with_unfolding_all rfl)) | (apply h_imm 5; (case h => assumption); (case e => with_unfolding_all rfl)))); (case i2 => (first | apply Im.int | apply Im.str | apply Im.bl | apply Im.non | assumption | (apply h_imm 0; (case h => assumption); (case e => with_unfolding_all rfl)) | (apply h_imm 1; (case h => assumption); (case e => with_unfolding_all rfl)) | (apply h_imm 2; (case h => assumption); (case e => with_unfolding_all rfl)) | (apply h_imm 3; (case h => assumption); (case e => with_unfolding_all rfl)) | (apply h_imm 4; (case h => assumption); (case e => with_unfolding_all rfl)) | (apply h_imm 5; (case h => assumption); (case e => with_unfolding_all rfl)))))
  | (apply h_Wwrs; (case h => assumption); (case i1 => (first | apply Im.int | apply Im.str | apply Im.bl | apply Im.non | assumption | (apply h_imm 0; (case h => assumption); (case e => with_unfolding_all rfl)) | (apply h_imm 1; (case h => assumption); (case e => with_unfolding_all rfl)) | (apply h_imm 2; (case h => assumption); (case e => with_unfolding_all rfl)) | (apply h_imm 3; (case h => assumption); (case e => with_unfolding_all rfl)) | (apply h_imm 4; (case h => assumption); (case e => with_unfolding_all rfl)) | (apply h_imm 5; (case h => assumption); (case e => with_unfolding_all rfl)))); (case i2 => (first | apply Im.int | apply Im.str | apply Im.bl | apply Im.non | assumption | (apply h_imm 0; (case h => assumption); (case e => with_unfolding_all rfl)) | (apply h_imm 1; (case h => assumption); (case e => with_unfolding_all rfl)) | (apply h_imm 2; (case h => assumption); (case e => with_unfolding_all rfl)) | (apply h_imm 3; (case h => assumption); (case e => with_unfolding_all rfl)) | (apply h_imm 4; (case h => assumption); (case e => with_unfolding_all rfl)) | (apply h_imm 5; (case h => assumption); (case e => with_unfolding_all rfl)))))
  | (apply h_Wrds; (case h => assumption); (case i1 => (first | apply Im.int | apply Im.str | apply Im.bl | apply Im.non | assumption | (apply h_imm 0; (case h => assumption); (case e => with_unfolding_all rfl)) | (apply h_imm 1; (case h => assumption); (case e => with_unfolding_all rfl)) | (apply h_imm 2; (case h => assumption); (case e => with_unfolding_all rfl)) | (apply h_imm 3; (case h => assumption); (case e => with_unfolding_all rfl)) | (apply h_imm 4; (case h => assumption); (case e => with_unfolding_all rfl)) | (apply h_imm 5; (case h => assumption); (case e => with_unfolding_all rfl)))); (case i2 => (first | apply Im.int | apply Im.str | apply Im.bl | apply Im.non | assumption | (apply h_imm 0; (case h => assumption); (case e => with_unfolding_all rfl)) | (apply h_imm 1; (case h => assumption); (case e => with_unfolding_all rfl)) | (apply h_imm 2; (case h => assumption); (case e => with_unfolding_all rfl)) | (apply h_imm 3; (case h => assumption); (case e => with_unfolding_all rfl)) | (apply h_imm 4; (case h => assumption); (case e => with_unfolding_all rfl)) | (apply h_imm 5; (case h => assumption); (case e => with_unfolding_all rfl)))))
  | (apply h_Wtot; (case h => assumption); (case i1 => (first | apply Im.int | apply Im.str | apply Im.bl | apply Im.non | assumption | (apply h_imm 0; (case h => assumption); (case e => with_unfolding_all rfl)) | (apply h_imm 1; (case h => assumption); (case e => with_unfolding_all rfl)) | (apply h_imm 2; (case h => assumption); (case e => with_unfolding_all rfl)) | (apply h_imm 3; (case h => assumption); (case e => with_unfolding_all rfl)) | (apply h_imm 4; (case h => assumption); (case e => with_unfolding_all rfl)) | (apply h_imm 5; (case h => assumption); (case e => with_unfolding_all rfl)))); (case i2 => (first | apply Im.int | apply Im.str | apply Im.bl | apply Im.non | assumption | (apply h_imm 0; (case h => assumption); (case e => with_unfolding_all rfl)) | (apply h_imm 1; (case h => assumption); (case e => with_unfolding_all rfl)) | (apply h_imm 2; (case h => assumption); (case e => with_unfolding_all rfl)) | (apply h_imm 3; (case h => assumption); (case e => with_unfolding_all rfl)) | (apply h_imm 4; (case h => assumption); (case e => with_unfolding_all rfl)) | (apply h_imm 5; (case h => assumption); (case e => with_unfolding_all rfl)))))
  | (apply h_Wplace; (case h => assumption); (case i1 => (first | apply Im.int | apply Im.str | apply Im.bl | apply Im.non | assumption | (apply h_imm 0; (case h => assumption); (case e => with_unfolding_all rfl)) | (apply h_imm 1; (case h => assumption); (case e => with_unfolding_all rfl)) | (apply h_imm 2; (case h => assumption); (case e => with_unfolding_all rfl)) | (apply h_imm 3; (case h => assumption); (case e => with_unfolding_all rfl)) | (apply h_imm 4; (case h => assumption); (case e => with_unfolding_all rfl)) | (apply h_imm 5; (case h => assumption); (case e => with_unfolding_all rfl)))); (case i2 => (first | apply Im.int | apply Im.str | apply Im.bl | apply Im.non | assumption | (apply h_imm 0; (case h => assumption); (case e => with_unfolding_all rfl)) | (apply h_imm 1; (case h => assumption); (case e => with_unfolding_all rfl)) | (apply h_imm 2; (case h => assumption); (case e => with_unfolding_all rfl)) | (apply h_imm 3; (case h => assumption); (case e => with_unfolding_all rfl)) | (apply h_imm 4; (case h => assumption); (case e => with_unfolding_all rfl)) | (apply h_imm 5; (case h => assumption); (case e => with_unfolding_all rfl)))))
  | (apply h_whole; (case h => (first | apply Im.int | apply Im.str | apply Im.bl | apply Im.non | assumption | (apply h_imm 0; (case h => assumption); (case e => with_unfolding_all rfl)) | (apply h_imm 1; (case h => assumption); (case e => with_unfolding_all rfl)) | (apply h_imm 2; (case h => assumption); (case e => with_unfolding_all rfl)) | (apply h_imm 3; (case h => assumption); (case e => with_unfolding_all rfl)) | (apply h_imm 4; (case h => assumption); (case e => with_unfolding_all rfl)) | (apply h_imm 5; (case h => assumption); (case e => with_unfolding_all rfl)))))) | with_reducible intro))

def t_is_whole (K : PySem.W.Frag) (A : Ad) : TS :=
  (tRet (tOp (mEq K) (tOp (rIx K) (mV 0) (tC (.int 3))) (tOp mMul (tC (.int 8)) (tOp (rIx K) (mV 0) (tC (.int 0))))))
theorem rd_is_whole {K : PySem.W.Frag} {A : Ad} {vs : List V} {H : Hp} {Q : VK} {E : XK} (h : sp_is_whole K A vs H Q E) : t_is_whole K A { nx := fun _ H' => Q .non H', rt := Q } (start ["slot"] vs) H := by
  obtain ⟨a, x, rfl, hx, k⟩ := h
  show t_is_whole K A _ [some (.ref a)] H
  unfold t_is_whole
  have hx : Im K H (.ref a) (.tuple [.int x.n, .bool x.big, .int x.f, .int x.w, .bool x.s]) := hx
  walk_at "gs"
  rw [whole_eq]
  exact k
def t_Work___init__ (K : PySem.W.Frag) (A : Ad) : TS :=
  (tSeq (sFld K (mV 0) (mV 1) "kind")
  (tSeq (sFld K (mV 0) (mV 2) "source")
  (tSeq (sFld K (mV 0) (mV 3) "target")
  (tSeq (sFld K (mV 0) (mV 4) "value")
  (tSeq (sFld K (mV 0) (tC (.int 0)) "done")
  (tSeq (sFld K (mV 0) (tLst tNil) "source_bytes")
  (tSeq (sFld K (mV 0) (tLst tNil) "target_bytes")
  (tSeq (sFld K (mV 0) (tC .non) "result")
  (sFld K (mV 0) (tLst tNil) "new")))))))))
theorem rd_Work___init__ {K : PySem.W.Frag} {A : Ad} {vs : List V} {H : Hp} {Q : VK} {E : XK} (C : XC K A) (h : sp_Work___init__ K A vs H Q E) : t_Work___init__ K A { nx := fun _ H' => Q .non H', rt := Q } (start ["self", "kind", "source", "target", "value"] vs) H := by
  obtain ⟨w, dx, kd, sv, tv, vv, rfl, hw, k⟩ := h
  show t_Work___init__ K A _ [some (.ref w), some (.str kd), some sv, some tv, some vv] H
  unfold t_Work___init__
  have cW := C.cf_Work
  have hL : Led K H [w] H [(w, .raw (.ins A.c_Work dx []))] [] := Led.mk1 hw
  walk_at "gs"
  rename_i p1 Ha n1 g1 Hb g2 p2 Hc n2 g3 Hd g4 He g5 p3 Hf n3 g6 Hg g7
  have fr : ∀ {p : Addr} (m : Nat) {e : Ent}, (H p = none ∨ p ∈ [w]) → ([(p3, Ent.raw (.lst [])), (p2, .raw (.lst [])), (p1, .raw (.lst [])), (w, .raw (.ins A.c_Work dx (Wk_L (.str kd) sv tv vv (.int 0) (.ref p1) (.ref p2) .non (.ref p3))))])[m]? = some (p, e) → m < 3 → H p = none := fun {p} m {e} np em hm =>
    np.elim id fun z => absurd (List.mem_singleton.mp z) (g7.ne m 3 em rfl (by omega))
  exact k p1 p2 p3 Hg (fr 2 n1 rfl (by decide)) (fr 1 n2 rfl (by decide)) (fr 0 n3 rfl (by decide)) (g7.pick [3, 2, 1, 0])
def t_Work_written (K : PySem.W.Frag) (A : Ad) : TS :=
  (tRet (mIfE (mTest (tOp mIsN (tFld K (mV 0) "target") (tC .non))) (tFld K (mV 0) "source") (tFld K (mV 0) "target")))
theorem rd_Work_written {K : PySem.W.Frag} {A : Ad} {vs : List V} {H : Hp} {Q : VK} {E : XK} (C : XC K A) (h : sp_Work_written K A vs H Q E) : t_Work_written K A { nx := fun _ H' => Q .non H', rt := Q } (start ["self"] vs) H := by
  obtain ⟨w, dx, pb, pt, pn, sv, tv, c, st, rfl, h0, k⟩ := h
  show t_Work_written K A _ [some (.ref w)] H
  unfold t_Work_written
  have cW := C.cf_Work
  have h0 : Led K H [] H (wkE A w dx pb pt pn sv tv c st ++ []) (wkI sv tv c) := h0
  rcases (h0.im 1 _ _ rfl).oD with ⟨e, rfl⟩ | ⟨a, x, e, rfl, i2⟩
  · rw [e] at k
    walk_at "gs"
    exact k
  · rw [e] at k
    walk_at "gs"
    exact k
def t_Work_source_reads (K : PySem.W.Frag) (A : Ad) : TS :=
  (tRet (mIfE (mTest (tOp (mEq K) (tFld K (mV 0) "kind") (tC (.str "set")))) (tC (.int 0)) (tOp (rIx K) (tFld K (mV 0) "source") (tC (.int 0)))))
theorem rd_Work_source_reads {K : PySem.W.Frag} {A : Ad} {vs : List V} {H : Hp} {Q : VK} {E : XK} (C : XC K A) (h : sp_Work_source_reads K A vs H Q E) : t_Work_source_reads K A { nx := fun _ H' => Q .non H', rt := Q } (start ["self"] vs) H := by
  obtain ⟨w, dx, pb, pt, pn, sv, tv, c, st, rfl, h0, k⟩ := h
  show t_Work_source_reads K A _ [some (.ref w)] H
  unfold t_Work_source_reads
  have cW := C.cf_Work
  have h0 : Led K H [] H (wkE A w dx pb pt pn sv tv c st ++ []) (wkI sv tv c) := h0
  have k := k H (Same.refl H)
  walk_at "gs"
  rw [kd_set]
  rcases (h0.im 0 _ _ rfl).oD with ⟨e, rfl⟩ | ⟨a, x, e, rfl, i2⟩
  · refine h_brEb (fun hc => ?_) (fun hc => ?_)
    · walk_at "gs"
      have q : c.srd = 0 := by unfold Cf.srd; rw [e]
      rw [q] at k
      exact k
    · rw [isSet_src, e] at hc
      exact nomatch hc
  · have i3 : Im K H (.ref a) (.tuple [.int x.n, .bool x.big, .int x.f, .int x.w, .bool x.s]) := i2
    have q : c.srd = x.n := by unfold Cf.srd; rw [e]
    rw [q] at k
    refine h_brEb (fun hc => ?_) (fun hc => ?_)
    · rw [isSet_src, e] at hc
      exact nomatch hc
    · walk_at "gs"
      exact k
def t_Work_target_reads (K : PySem.W.Frag) (A : Ad) : TS :=
  (tSeq (mIf (tOr (mTest (tOp (uNin K) (tFld K (mV 0) "kind") (tTup (tCons (tC (.str "set")) (tCons (tC (.str "copy")) tNil))))) (mTr K (tCall (sp_is_whole K A) [] E0 (tCons (tFld K (mV 0) "target") tNil))))
    (tRet (tC (.int 0)))
    tNext)
  (tRet (tOp (rIx K) (tFld K (mV 0) "target") (tC (.int 0)))))
theorem rd_Work_target_reads {K : PySem.W.Frag} {A : Ad} {vs : List V} {H : Hp} {Q : VK} {E : XK} (C : XC K A) (h : sp_Work_target_reads K A vs H Q E) : t_Work_target_reads K A { nx := fun _ H' => Q .non H', rt := Q } (start ["self"] vs) H := by
  obtain ⟨w, dx, pb, pt, pn, sv, tv, c, st, rfl, h0, k⟩ := h
  show t_Work_target_reads K A _ [some (.ref w)] H
  unfold t_Work_target_reads
  have cW := C.cf_Work
  have h0 : Led K H [] H (wkE A w dx pb pt pn sv tv c st ++ []) (wkI sv tv c) := h0
  walk_at "gs"
  rename_i p H1 h1
  rw [kd_sc]
  have k := k H1 (KBs.same h1.kp)
  rcases (h1.im 2 _ _ rfl).oD with ⟨e, rfl⟩ | ⟨a, x, e, rfl, i2⟩
  · have q : c.trd = 0 := by unfold Cf.trd; rw [e]
    rw [q] at k
    rw [e]
    walk_at "gs"
    exact k
  · rw [e]
    have i3 : Im K H1 (.ref a) (.tuple [.int x.n, .bool x.big, .int x.f, .int x.w, .bool x.s]) := i2
    refine iteF ?_
    walk_at "gs"
    refine h_brb (fun hc => ?_) (fun hc => ?_)
    · have q : c.trd = 0 := by unfold Cf.trd; rw [e]; exact if_pos hc
      rw [q] at k
      walk_at "gs"
      exact k
    · have q : c.trd = x.n := by unfold Cf.trd; rw [e]; exact if_neg (by rw [hc]; exact Bool.false_ne_true)
      rw [q] at k
      walk_at "gs"
      exact k
def t_Work_writes (K : PySem.W.Frag) (A : Ad) : TS :=
  (tRet (mIfE (mTest (tOp (mEq K) (tFld K (mV 0) "kind") (tC (.str "get")))) (tC (.int 0)) (tOp (rIx K) (tMeth A.c_Work "written" (sp_Work_written K A) [] E0 (mV 0) tNil) (tC (.int 0)))))
theorem rd_Work_writes {K : PySem.W.Frag} {A : Ad} {vs : List V} {H : Hp} {Q : VK} {E : XK} (C : XC K A) (h : sp_Work_writes K A vs H Q E) : t_Work_writes K A { nx := fun _ H' => Q .non H', rt := Q } (start ["self"] vs) H := by
  obtain ⟨w, dx, pb, pt, pn, sv, tv, c, st, rfl, h0, k⟩ := h
  show t_Work_writes K A _ [some (.ref w)] H
  unfold t_Work_writes
  have cW := C.cf_Work
  have h0 : Led K H [] H (wkE A w dx pb pt pn sv tv c st ++ []) (wkI sv tv c) := h0
  have k := k H (Same.refl H)
  walk_at "gs"
  rw [kd_get]
  refine h_brEb (fun hc => ?_) (fun hc => ?_)
  · walk_at "gs"
    have q : c.wrs = 0 := by cases c <;> first | rfl | exact nomatch hc
    rw [q] at k
    exact k
  · walk_at "gs"
    have q : c.wrs = c.wri.n := by cases c <;> first | rfl | exact nomatch hc
    rw [q] at k
    exact k
def t_Work_reads (K : PySem.W.Frag) (A : Ad) : TS :=
  (tRet (tOp (mAdd K) (tMeth A.c_Work "source_reads" (sp_Work_source_reads K A) [] E0 (mV 0) tNil) (tMeth A.c_Work "target_reads" (sp_Work_target_reads K A) [] E0 (mV 0) tNil)))
theorem rd_Work_reads {K : PySem.W.Frag} {A : Ad} {vs : List V} {H : Hp} {Q : VK} {E : XK} (h : sp_Work_reads K A vs H Q E) : t_Work_reads K A { nx := fun _ H' => Q .non H', rt := Q } (start ["self"] vs) H := by
  obtain ⟨w, dx, pb, pt, pn, sv, tv, c, st, rfl, h0, k⟩ := h
  show t_Work_reads K A _ [some (.ref w)] H
  unfold t_Work_reads
  have h0 : Led K H [] H (wkE A w dx pb pt pn sv tv c st ++ []) (wkI sv tv c) := h0
  walk_at "gs"
  rename_i H1 h1 H2 h2
  exact k H2 (KBs.same h2.kp)
def t_Work_total (K : PySem.W.Frag) (A : Ad) : TS :=
  (tRet (tOp (mAdd K) (tMeth A.c_Work "reads" (sp_Work_reads K A) [] E0 (mV 0) tNil) (tMeth A.c_Work "writes" (sp_Work_writes K A) [] E0 (mV 0) tNil)))
theorem rd_Work_total {K : PySem.W.Frag} {A : Ad} {vs : List V} {H : Hp} {Q : VK} {E : XK} (h : sp_Work_total K A vs H Q E) : t_Work_total K A { nx := fun _ H' => Q .non H', rt := Q } (start ["self"] vs) H := by
  obtain ⟨w, dx, pb, pt, pn, sv, tv, c, st, rfl, h0, k⟩ := h
  show t_Work_total K A _ [some (.ref w)] H
  unfold t_Work_total
  have h0 : Led K H [] H (wkE A w dx pb pt pn sv tv c st ++ []) (wkI sv tv c) := h0
  walk_at "gs"
  rename_i H1 h1 H2 h2
  exact k H2 (KBs.same h2.kp)
def t_Work_target_place (K : PySem.W.Frag) (A : Ad) : TS :=
  (tRet (mIfE (mTest (tOp mIsN (tFld K (mV 0) "target") (tC .non))) (mV 1) (mV 2)))
theorem rd_Work_target_place {K : PySem.W.Frag} {A : Ad} {vs : List V} {H : Hp} {Q : VK} {E : XK} (C : XC K A) (h : sp_Work_target_place K A vs H Q E) : t_Work_target_place K A { nx := fun _ H' => Q .non H', rt := Q } (start ["self", "source_offset", "target_offset"] vs) H := by
  obtain ⟨w, dx, pb, pt, pn, sv, tv, x, y, c, st, rfl, h0, k⟩ := h
  show t_Work_target_place K A _ [some (.ref w), some x, some y] H
  unfold t_Work_target_place
  have cW := C.cf_Work
  have h0 : Led K H [] H (wkE A w dx pb pt pn sv tv c st ++ []) (wkI sv tv c) := h0
  rcases (h0.im 1 _ _ rfl).oD with ⟨e, rfl⟩ | ⟨a, z, e, rfl, i2⟩
  · rw [e] at k
    walk_at "gs"
    exact k
  · rw [e] at k
    walk_at "gs"
    exact k

theorem isAdd_t {c : Cf} (h : c.isAdd = true) : ∃ v, c.val = some v ∧ ∀ r, c.resOf r = r + v := by
  cases c <;> first | exact ⟨_, rfl, fun _ => rfl⟩ | exact nomatch h
theorem isAdd_f {c : Cf} (h : c.isAdd = false) (r : Int) : c.resOf r = r := by
  cases c <;> first | rfl | simp [Cf.isAdd] at h
theorem giv_t {c : Cf} (h : c.giv = true) (st : Ws) : oI c.val = .int (c.num st) := by
  cases c <;> first | rfl | simp [Cf.giv] at h
theorem giv_f {c : Cf} {st : Ws} (h : c.giv = false) (r : st.res.isSome = true) : oI st.res = .int (c.num st) := by
  obtain ⟨d, sb, tb, res, nw⟩ := st
  cases res with
  | none => exact nomatch r
  | some i => cases c <;> first | rfl | simp [Cf.giv] at h
theorem get_tgt {c : Cf} (h : c.isGet = false) : c.tgt.isNone = true ∨ c.tgt.isNone = false := by cases c.tgt.isNone <;> simp
def t_Work_read_source (K : PySem.W.Frag) (A : Ad) (W : WX) : TS :=
  (tSeq (tAsg (tFld K (mV 0) "source") (gTup K 5 (mGc (gName 1) (mGc (gName 2) (mGc (gName 3) (mGc (gName 4) (mGc (gName 5) mGn)))))))
  (tSeq (tAsg (tCall (sp_read_slot K A) [] E0 (tCons (tFld K (mV 0) "source_bytes") (tCons (tC (.int 0)) (tCons (mV 1) (tCons (mV 2) (tCons (mV 3) (tCons (mV 4) (tCons (mV 5) tNil)))))))) (gName 6))
  (tSeq (sFld K (mV 0) (mIfE (mTest (tOp (mEq K) (tFld K (mV 0) "kind") (tC (.str "add")))) (tOp (mAdd K) (mV 6) (tFld K (mV 0) "value")) (mV 6)) "result")
  (mIf (mTest (tOp (uIn K) (tFld K (mV 0) "kind") (tTup (tCons (tC (.str "add")) (tCons (tC (.str "copy")) tNil)))))
    (tSeq (tAsg (tCall (sp_bounds K A) [] E0 (tCons (tOp (rIx K) (tMeth A.c_Work "written" (sp_Work_written K A) [] E0 (mV 0) tNil) (tC (.int 3))) (tCons (tOp (rIx K) (tMeth A.c_Work "written" (sp_Work_written K A) [] E0 (mV 0) tNil) (tC (.int 4))) tNil))) (gTup K 2 (mGc (gName 7) (mGc (gName 8) mGn))))
  (mIf (tOr (mTest (tOp mLt (tFld K (mV 0) "result") (mV 7))) (mTest (tOp mGt (tFld K (mV 0) "result") (mV 8))))
    (mRaise0 A.c_OutOfRange W)
    tNext))
    tNext))))
theorem rd_Work_read_source {K : PySem.W.Frag} {A : Ad} {vs : List V} {H : Hp} {Q : VK} {E : XK} (C : XC K A) (h : sp_Work_read_source K A vs H Q E) : t_Work_read_source K A (fun cls d _ H => E cls d H) { nx := fun _ H' => Q .non H', rt := Q } (start ["self", "size", "big", "first", "width", "signed", "number", "least", "most"] vs) H := by
  obtain ⟨w, dx, pb, pt, pn, sv, tv, c, st, x, rfl, h0, ok, hs, hl, kg, kx⟩ := h
  show t_Work_read_source K A _ _ [some (.ref w), none, none, none, none, none, none, none, none] H
  unfold t_Work_read_source
  have cW := C.cf_Work
  have h0 : Led K H [w] H (wkE A w dx pb pt pn sv tv c st ++ []) (wkI sv tv c) := h0
  obtain ⟨n0, n4, w0, fw⟩ := ok.s x hs
  obtain ⟨m0, m4, u0, gw⟩ := Cf.wOk ok
  rcases (h0.im 0 _ _ rfl).oD with ⟨e, _⟩ | ⟨a, y, e, rfl, i1⟩
  · rw [hs] at e
    exact nomatch e
  rw [hs] at e
  cases e
  have h1 := h0.imNew (show Im K H (.ref a) (.tuple [.int x.n, .bool x.big, .int x.f, .int x.w, .bool x.s]) from i1)
  clear h0
  walk_at "gs"
  rw [kd_add]
  refine h_brEv (.int (c.resOf (rd5 x st.sb))) (fun hc Q' k => ?_) (fun hc Q' k => ?_) ?_
  · obtain ⟨v, e1, e2⟩ := isAdd_t hc
    walk_at "gs"
    rw [show oI c.val = .int v by rw [e1]; rfl]
    walk_at "gs"
    rw [e2] at k
    exact k
  · walk_at "gs"
    rw [isAdd_f hc] at k
    exact k
  generalize hr : c.resOf (rd5 x st.sb) = r at *
  walk_at "gs"
  rename_i Ha g1 p Hb g2
  have g3 : Led K H [w] Hb (wkE A w dx pb pt pn (.ref a) tv c { st with res := some r } ++ []) (wkI (.ref a) tv c) := g2.tl.tl
  clear g1 g2 h1
  rw [kd_ac]
  refine h_brb (fun hc => ?_) (fun hc => ?_)
  · walk_at "gs"
    rename_i a1 g4 a2 g5 q Hc g6
    have g7 : Led K H [w] Hc (wkE A w dx pb pt pn (.ref a) tv c { st with res := some r } ++ []) (wkI (.ref a) tv c) := g6.tl.tl.tl
    have raise : (r < lo c.wri.w c.wri.s ∨ hi c.wri.w c.wri.s < r) → E (.ref A.c_OutOfRange) none Hc := fun z => kx ⟨hc, fun y => by unfold S5.inB at y; omega⟩ Hc g7
    rw [show oI (some r) = .int r from rfl]
    walk_at "gs"
    refine h_ite (fun h1 => ?_) (fun h1 => ?_)
    · walk_at "gs"
      exact raise (.inl h1)
    · walk_at "gs"
      rw [show oI (some r) = .int r from rfl]
      walk_at "gs"
      refine h_br (fun h2 => ?_) (fun h2 => ?_)
      · walk_at "gs"
        exact raise (.inr h2)
      · walk_at "gs"
        exact kg (fun z => z.2 ⟨Int.not_lt.mp h1, Int.not_lt.mp h2⟩) Hc g7
  · walk_at "gs"
    exact kg (fun z => Bool.false_ne_true (hc.symm.trans z.1)) _ g3
def t_Work_make_new (K : PySem.W.Frag) (A : Ad) (W : WX) : TS :=
  (tSeq (tAsg (tMeth A.c_Work "written" (sp_Work_written K A) [] E0 (mV 0) tNil) (gTup K 5 (mGc (gName 1) (mGc (gName 2) (mGc (gName 3) (mGc (gName 4) (mGc (gName 5) mGn)))))))
  (tSeq (tAsg (mIfE (mTest (tOp mIsN (tFld K (mV 0) "target") (tC .non))) (tFld K (mV 0) "source_bytes") (tFld K (mV 0) "target_bytes")) (gName 6))
  (tSeq (sFld K (mV 0) (mIfE (mTr K (mV 6)) (tCB (hListOf K) (tCons (mV 6) tNil)) (tOp mMul (tLst (tCons (tC (.int 0)) tNil)) (mV 1))) "new")
  (tSeq (tAsg (mIfE (mTest (tOp (uIn K) (tFld K (mV 0) "kind") (tTup (tCons (tC (.str "set")) (tCons (tC (.str "exchange")) tNil))))) (tFld K (mV 0) "value") (tFld K (mV 0) "result")) (gName 7))
  (tDrop (tCallS (sp_write_slot K A) (WE W) (tCons (tFld K (mV 0) "new") (tCons (tC (.int 0)) (tCons (mV 1) (tCons (mV 2) (tCons (mV 3) (tCons (mV 4) (tCons (mV 5) (tCons (mV 7) tNil))))))))))))))
theorem rd_Work_make_new {K : PySem.W.Frag} {A : Ad} {vs : List V} {H : Hp} {Q : VK} {E : XK} (C : XC K A) (h : sp_Work_make_new K A vs H Q E) : t_Work_make_new K A (fun cls d _ H => E cls d H) { nx := fun _ H' => Q .non H', rt := Q } (start ["self", "size", "big", "first", "width", "signed", "old", "number"] vs) H := by
  obtain ⟨w, dx, pb, pt, pn, sv, tv, c, st, rfl, h0, ok, hg, hb, hn, hr, k⟩ := h
  show t_Work_make_new K A _ _ [some (.ref w), none, none, none, none, none, none, none] H
  unfold t_Work_make_new
  have cW := C.cf_Work
  have h0 : Led K H [w] H (wkE A w dx pb pt pn sv tv c st ++ []) (wkI sv tv c) := h0
  obtain ⟨m0, m4, u0, gw⟩ := Cf.wOk ok
  rcases (h0.im 1 _ _ rfl).oD with ⟨e, rfl⟩ | ⟨at', z, e, rfl, _⟩
  · have eo : c.old st = st.sb := by unfold Cf.old; rw [e]; rfl
    have bs : c.base st = if (st.sb).isEmpty = true then List.replicate c.wri.n 0 else st.sb := by unfold Cf.base; rw [eo]
    walk_at "gs"
    rename_i a1 g1
    refine h_truL 1 g1 rfl ?_
    walk_at "gs"
    refine h_brEj (fun v H' => ∃ q, v = .ref q ∧ (H q = none ∨ q ∈ [w]) ∧ Led K H [w] H' ((q, .raw (.lst ((c.base st).map V.int))) :: wkE A w dx pb pt pn sv .non c st ++ []) (wkI sv .non c)) (fun hc Q' k => ?_) (fun hc Q' k => ?_) ?_
    · have hz : c.base st = st.sb := by
        rw [bs, if_neg]
        intro z
        rw [List.isEmpty_map, z] at hc
        exact nomatch hc
      walk_at "gs"
      rename_i q H1 nq g2
      rw [← hz] at g2
      exact k _ _ ⟨q, rfl, nq, g2.tl⟩
    · have hz : c.base st = List.replicate c.wri.n 0 := by
        rw [bs, if_pos]
        rw [List.isEmpty_map] at hc
        cases z : (st.sb).isEmpty
        · rw [z] at hc
          exact nomatch hc
        · rfl
      walk_at "gs"
      rename_i q1 H1 nq1 g2
      refine h_rep 0 g2 rfl (by omega) (by omega) fun q H2 nq g3 => ?_
      rw [show ((c.wri.n : Int)).toNat = c.wri.n from rfl, ← hz] at g3
      exact k _ _ ⟨q, rfl, nq, (g3.pick [0, 2, 3, 4, 5]).tl⟩
    rintro v H1 ⟨q, rfl, nq, g2⟩
    have hq : H q = none := nq.elim id fun z => absurd (List.mem_singleton.mp z) (g2.ne 0 1 rfl rfl (by decide))
    clear g1
    walk_at "gs"
    rename_i H2 g3 p H3 g4
    rw [kd_se]
    refine h_brEv (.int (c.num st)) (fun hc Q' k => ?_) (fun hc Q' k => ?_) ?_
    · walk_at "gs"
      rw [giv_t hc st]
      exact k
    · walk_at "gs"
      rw [giv_f hc (hr hc)]
      exact k
    walk_at "gs"
    refine h_wslot 0 g4 rfl (by omega) (by omega) (by omega) (by omega) (by omega) (by omega) (by omega) (by omega) nq (fun z => ?_) (fun _ _ H4 g5 => ?_)
    · obtain ⟨h1, h2⟩ := hn
      rcases z with z | z
      · exact absurd h1 (Int.not_le.mpr z)
      · exact absurd h2 (Int.not_le.mpr z)
    · walk_at "gs"
      exact k q H4 hq (g5.pick [1, 2, 3, 0]).tl
  · have eo : c.old st = st.tb := by unfold Cf.old; rw [e]; rfl
    have bs : c.base st = if (st.tb).isEmpty = true then List.replicate c.wri.n 0 else st.tb := by unfold Cf.base; rw [eo]
    walk_at "gs"
    rename_i a1 g1
    refine h_truL 2 g1 rfl ?_
    walk_at "gs"
    refine h_brEj (fun v H' => ∃ q, v = .ref q ∧ (H q = none ∨ q ∈ [w]) ∧ Led K H [w] H' ((q, .raw (.lst ((c.base st).map V.int))) :: wkE A w dx pb pt pn sv (.ref at') c st ++ []) (wkI sv (.ref at') c)) (fun hc Q' k => ?_) (fun hc Q' k => ?_) ?_
    · have hz : c.base st = st.tb := by
        rw [bs, if_neg]
        intro z
        rw [List.isEmpty_map, z] at hc
        exact nomatch hc
      walk_at "gs"
      rename_i q H1 nq g2
      rw [← hz] at g2
      exact k _ _ ⟨q, rfl, nq, g2.tl⟩
    · have hz : c.base st = List.replicate c.wri.n 0 := by
        rw [bs, if_pos]
        rw [List.isEmpty_map] at hc
        cases z : (st.tb).isEmpty
        · rw [z] at hc
          exact nomatch hc
        · rfl
      walk_at "gs"
      rename_i q1 H1 nq1 g2
      refine h_rep 0 g2 rfl (by omega) (by omega) fun q H2 nq g3 => ?_
      rw [show ((c.wri.n : Int)).toNat = c.wri.n from rfl, ← hz] at g3
      exact k _ _ ⟨q, rfl, nq, (g3.pick [0, 2, 3, 4, 5]).tl⟩
    rintro v H1 ⟨q, rfl, nq, g2⟩
    have hq : H q = none := nq.elim id fun z => absurd (List.mem_singleton.mp z) (g2.ne 0 1 rfl rfl (by decide))
    clear g1
    walk_at "gs"
    rename_i H2 g3 p H3 g4
    rw [kd_se]
    refine h_brEv (.int (c.num st)) (fun hc Q' k => ?_) (fun hc Q' k => ?_) ?_
    · walk_at "gs"
      rw [giv_t hc st]
      exact k
    · walk_at "gs"
      rw [giv_f hc (hr hc)]
      exact k
    walk_at "gs"
    refine h_wslot 0 g4 rfl (by omega) (by omega) (by omega) (by omega) (by omega) (by omega) (by omega) (by omega) nq (fun z => ?_) (fun _ _ H4 g5 => ?_)
    · obtain ⟨h1, h2⟩ := hn
      rcases z with z | z
      · exact absurd h1 (Int.not_le.mpr z)
      · exact absurd h2 (Int.not_le.mpr z)
    · walk_at "gs"
      exact k q H4 hq (g5.pick [1, 2, 3, 0]).tl

theorem step_done (c : Cf) (st : Ws) (D : List Int) (so to : Option Nat) : (c.step st D so to).1.done = st.done + 1 := by
  unfold Cf.step
  split
  · split
    · dsimp only
      split <;> rfl
    · rfl
  · split
    · rfl
    · show (c.stN st).done = _
      unfold Cf.stN
      split <;> rfl
theorem step_told (c : Cf) (st : Ws) (D : List Int) (so to : Option Nat) (h : (c.step st D so to).2.2 ≠ .range) : (c.step st D so to).2.2 = c.told (c.step st D so to).1 := by
  unfold Cf.step at h ⊢
  split
  · rename_i h1
    rw [if_pos h1] at h
    split
    · rename_i h2
      rw [if_pos h2] at h
      dsimp only at h ⊢
      split
      · rename_i h3
        rw [if_pos h3] at h
        exact absurd rfl h
      · rfl
    · rfl
  · split <;> rfl
theorem told_ne (c : Cf) (st : Ws) : c.told st ≠ .range := by
  unfold Cf.told
  split <;> exact fun h => nomatch h
section
variable {K : PySem.W.Frag} {A : Ad} {H0 H : Hp} {S : List Addr} {L : List (Addr × Ent)} {I : List (V × PyData)} {Q : VK} {E : XK} {w dx pb pt pn a : Addr} {sv tv x y : V} {c : Cf} {st : Ws} {X : List (Addr × Ent)}
theorem srd_src (h : 0 < c.srd) : ∃ x, c.src = some x ∧ c.srd = x.n := by
  unfold Cf.srd at *
  cases e : c.src with
  | none =>
    rw [e] at h
    exact absurd h (by decide)
  | some x => exact ⟨x, rfl, rfl⟩
theorem trd_tgt (h : 0 < c.trd) : ∃ x, c.tgt = some x ∧ c.trd = x.n := by
  unfold Cf.trd at *
  cases e : c.tgt with
  | none =>
    rw [e] at h
    exact absurd h (by decide)
  | some x =>
    rw [e] at h
    refine ⟨x, rfl, ?_⟩
    show (if x.whole = true then 0 else x.n) = x.n
    have h : 0 < (if x.whole = true then 0 else x.n) := h
    by_cases hc : x.whole = true
    · rw [if_pos hc] at h
      exact absurd h (by decide)
    · rw [if_neg hc]
end
def t_Work_write (K : PySem.W.Frag) (A : Ad) (W : WX) : TS :=
  (mCut (mIf (mTest (tOp (mEq K) (mV 3) (tC (.int 0))))
    (tDrop (tMethE A.c_Work "make_new" (sp_Work_make_new K A) (WE W) (mV 0) tNil))
    tNext)
  (tAsg (tOp (rIx K) (tFld K (mV 0) "new") (mV 3)) (gSub (mV 1) (tOp (mAdd K) (mV 2) (mV 3)) rSetL)))
theorem rd_Work_write {K : PySem.W.Frag} {A : Ad} {vs : List V} {H : Hp} {Q : VK} {E : XK} (C : XC K A) (h : sp_Work_write K A vs H Q E) : t_Work_write K A (fun cls d _ H => E cls d H) { nx := fun _ H' => Q .non H', rt := Q } (start ["self", "data", "offset", "index"] vs) H := by
  obtain ⟨w, dx, pb, pt, pn, d, sv, tv, c, st, D, o, i, rfl, h0, ok, hg, hm, hw, hi, ho, k⟩ := h
  show t_Work_write K A _ _ [some (.ref w), some (.ref d), some (.int o), some (.int i)] H
  unfold t_Work_write
  have cW := C.cf_Work
  refine h_cut (fun σ H' => σ = [some (.ref w), some (.ref d), some (.int o), some (.int i)] ∧ ∃ pn', (i ≠ 0 → pn' = pn) ∧ (i = 0 → H pn' = none) ∧
    Led K H [w, d] H' (wkE A w dx pb pt pn' sv tv c { st with nw := if i = 0 then c.mk st else st.nw } ++ [(d, .raw (.lst (D.map V.int)))]) (wkI sv tv c)) ?_ ?_
  · walk_at "gs"
    refine h_br (fun hc => ?_) (fun hc => ?_)
    · have hc0 : i = 0 := by omega
      obtain ⟨hm1, hm2, hm3⟩ := hm hc0
      walk_at "gs"
      refine ⟨w, dx, pb, pt, pn, sv, tv, c, st, rfl, h0.wk (h0.im 0 _ _ rfl) (h0.im 1 _ _ rfl) [w], ok, hg, hm1, hm2, hm3, fun pn' H1 hp h1 => ?_⟩
      walk_at "gs"
      refine ⟨pn', fun z => absurd hc0 z, fun _ => hp, ?_⟩
      have h2 := h0.back [4] [0] [0, 1, 2, 3] h1 (fun b hb => hb) (fun e he => ?_) (fun b hb => ?_)
      · rw [if_pos hc0]
        exact h2.iL
      · exact wk_hd he (.inr hp)
      · have e : b = w := List.mem_singleton.mp hb
        rw [e]
        exact .inr (by simp)
    · have hc0 : i ≠ 0 := by omega
      walk_at "gs"
      refine ⟨pn, fun _ => rfl, fun z => absurd z hc0, ?_⟩
      rw [if_neg hc0]
      exact h0
  · rintro σ H1 ⟨rfl, pn', e1, e2, h1⟩
    have hl : (if i = 0 then c.mk st else st.nw).length = c.wri.n := by
      by_cases hc : i = 0
      · rw [if_pos hc]
        exact mk_len (hm hc).1
      · rw [if_neg hc]
        exact hw hc
    walk_at "gs"
    refine h_ixI 3 h1 rfl (by omega) (by show _ < (((if i = 0 then c.mk st else st.nw).length : Nat) : Int); omega) ?_
    rw [show ((i : Int)).toNat = i from rfl]
    refine h_setI 4 h1 rfl (.inr (by simp)) (by omega) (by omega) fun H2 h2 => ?_
    rw [show ((o : Int) + (i : Int)).toNat = o + i by omega] at h2
    exact k pn' H2 e1 e2 h2
def t_Work_step (K : PySem.W.Frag) (A : Ad) (W : WX) : TS :=
  (tSeq (tAsg (tFld K (mV 0) "done") (gName 4))
  (tSeq (sFldAug K (mV 0) (tC (.int 1)) mIAdd "done")
  (mCut (mIf (mTest (tOp mLt (mV 4) (tMeth A.c_Work "source_reads" (sp_Work_source_reads K A) [] E0 (mV 0) tNil)))
    (tSeq (tDrop (tBM K "list" rAppend (tFld K (mV 0) "source_bytes") (tCons (tOp (rIx K) (mV 1) (tOp (mAdd K) (mV 2) (mV 4))) tNil)))
  (mIf (mTest (tOp (mEq K) (tOp (mAdd K) (mV 4) (tC (.int 1))) (tMeth A.c_Work "source_reads" (sp_Work_source_reads K A) [] E0 (mV 0) tNil)))
    (tDrop (tMethE A.c_Work "read_source" (sp_Work_read_source K A) (WE W) (mV 0) tNil))
    tNext))
    (mIf (mTest (tOp mLt (mV 4) (tMeth A.c_Work "reads" (sp_Work_reads K A) [] E0 (mV 0) tNil)))
    (tDrop (tBM K "list" rAppend (tFld K (mV 0) "target_bytes") (tCons (tOp (rIx K) (mV 1) (tOp mSub (tOp (mAdd K) (mV 3) (mV 4)) (tMeth A.c_Work "source_reads" (sp_Work_source_reads K A) [] E0 (mV 0) tNil))) tNil)))
    (tDrop (tMethE A.c_Work "write" (sp_Work_write K A) (WE W) (mV 0) (tCons (mV 1) (tCons (tMeth A.c_Work "target_place" (sp_Work_target_place K A) [] E0 (mV 0) (tCons (mV 2) (tCons (mV 3) tNil))) (tCons (tOp mSub (mV 4) (tMeth A.c_Work "reads" (sp_Work_reads K A) [] E0 (mV 0) tNil)) tNil)))))))
  (tSeq (mIf (mTest (tOp mLt (tFld K (mV 0) "done") (tMeth A.c_Work "total" (sp_Work_total K A) [] E0 (mV 0) tNil)))
    (tRet (tTup (tCons (tC (.str "going")) tNil)))
    tNext)
  (tRet (tTup (tCons (tC (.str "done")) (tCons (mIfE (mTest (tOp (mEq K) (tFld K (mV 0) "kind") (tC (.str "set")))) (tC .non) (tFld K (mV 0) "result")) tNil))))))))
theorem rd_Work_step {K : PySem.W.Frag} {A : Ad} {vs : List V} {H : Hp} {Q : VK} {E : XK} (C : XC K A) (h : sp_Work_step K A vs H Q E) : t_Work_step K A (fun cls d _ H => E cls d H) { nx := fun _ H' => Q .non H', rt := Q } (start ["self", "data", "source_offset", "target_offset", "at"] vs) H := by
  obtain ⟨w, dx, pb, pt, pn, d, sv, tv, c, st, D, so, to, rfl, h0, ok, inv, hlt, fit, kx, k⟩ := h
  show t_Work_step K A _ _ [some (.ref w), some (.ref d), some (oN so), some (oN to), none] H
  unfold t_Work_step
  have cW := C.cf_Work
  walk_at "gs"
  rename_i H1 h1'
  have h1 : Led K H [w, pb, pt, d] H1 (wkE A w dx pb pt pn sv tv c ⟨st.done + 1, st.sb, st.tb, st.res, st.nw⟩ ++ [(d, .raw (.lst (D.map V.int)))]) (wkI sv tv c) := h1'
  clear h1' h0
  have isb := inv.sb
  have itb := inv.tb
  refine h_cut (fun σ H' => σ = [some (.ref w), some (.ref d), some (oN so), some (oN to), some (.int st.done)] ∧ ∃ pn', (pn' = pn ∨ H pn' = none) ∧ (c.step st D so to).2.2 ≠ .range ∧
    Led K H [w, pb, pt, d] H' (wkE A w dx pb pt pn' sv tv c (c.step st D so to).1 ++ [(d, .raw (.lst ((c.step st D so to).2.1.map V.int)))]) (wkI sv tv c)) ?_ ?_
  · walk_at "gs"
    rename_i H2 h2
    clear h1
    refine h_br (fun hc => ?_) (fun hc => ?_)
    · have hc : st.done < c.srd := by omega
      obtain ⟨x, hx, ex⟩ := srd_src (c := c) (by omega)
      obtain ⟨i, hi, hn⟩ := fit.s x hx
      have e1 : oN so = .int i := by rw [hi]; rfl
      walk_at "gs"
      rw [e1]
      walk_at "gs"
      refine h_ixI 4 h2 rfl (by omega) (by omega) ?_
      obtain rfl := hi
      have xn := (ok.s x hx).n4
      refine h_appI 1 h2 rfl (.inr (by simp)) (by rw [sizeLine_eq]; show st.sb.length < _; omega) fun H3 h3' => ?_
      rw [show ((i : Int) + (st.done : Int)).toNat = i + st.done by omega] at h3'
      have h3 : Led K H [w, pb, pt, d] H3 (wkE A w dx pb pt pn sv tv c (c.stS st D (some i)) ++ [(d, .raw (.lst (D.map V.int)))]) (wkI sv tv c) := h3'
      clear h3' h2
      walk_at "gs"
      rename_i H4 h4
      clear h3
      have gx : c.src.getD c.wri = x := by rw [hx]; rfl
      refine h_br (fun hc2 => ?_) (fun hc2 => ?_)
      · have hc2 : st.done + 1 = c.srd := by omega
        walk_at "gs"
        refine ⟨w, dx, pb, pt, pn, sv, tv, c, c.stS st D (some i), x, rfl, h4.wk (h4.im 0 _ _ rfl) (h4.im 1 _ _ rfl) [w], ok, hx, by show (st.sb ++ [_]).length = _; rw [List.length_append, isb]; show _ + 1 = _; omega, fun hb H5 h5 => ?_, fun hb H5 h5 => ?_⟩
        · have es : c.step st D (some i) to = (c.stR (c.stS st D (some i)), D, c.told (c.stR (c.stS st D (some i)))) := by
            unfold Cf.step
            rw [if_pos hc, if_pos hc2, gx]
            dsimp only
            rw [if_neg hb]
          have h6 := h4.back [4] [0] [0, 1, 2, 3] h5 (fun b hb => hb) (fun e he => wk_hd he (.inl rfl)) (fun b hb => .inr (by have e : b = w := List.mem_singleton.mp hb; rw [e]; simp))
          have h7 := h6.iL
          walk_at "gs"
          refine ⟨pn, .inl rfl, by rw [es]; exact told_ne _ _, ?_⟩
          rw [es]
          unfold Cf.stR
          rw [gx]
          exact h7
        · have es : c.step st D (some i) to = (c.stR (c.stS st D (some i)), D, .range) := by
            unfold Cf.step
            rw [if_pos hc, if_pos hc2, gx]
            dsimp only
            rw [if_pos hb]
          have h6 := h4.back [4] [0] [0, 1, 2, 3] h5 (fun b hb => hb) (fun e he => wk_hd he (.inl rfl)) (fun b hb => .inr (by have e : b = w := List.mem_singleton.mp hb; rw [e]; simp))
          have h7 := h6.iL
          refine kx (by rw [es]) H5 ?_
          rw [es]
          unfold Cf.stR
          rw [gx]
          exact h7
      · have hc2 : ¬ st.done + 1 = c.srd := by omega
        have es : c.step st D (some i) to = (c.stS st D (some i), D, c.told (c.stS st D (some i))) := by
          unfold Cf.step
          rw [if_pos hc, if_neg hc2]
        walk_at "gs"
        refine ⟨pn, .inl rfl, by rw [es]; exact told_ne _ _, ?_⟩
        rw [es]
        exact h4
    · have hc : ¬ st.done < c.srd := by omega
      walk_at "gs"
      rename_i H3 h3
      clear h2
      refine h_br (fun hc2 => ?_) (fun hc2 => ?_)
      · have hc2 : st.done < c.rds := by omega
        have hrd : c.rds = c.srd + c.trd := rfl
        obtain ⟨x, hx, ex⟩ := trd_tgt (c := c) (by omega)
        obtain ⟨i, hi, hn⟩ := fit.t x hx
        obtain rfl := hi
        have es : c.step st D so (some i) = (c.stT st D (some i), D, c.told (c.stT st D (some i))) := by
          unfold Cf.step
          rw [if_neg hc, if_pos hc2]
        walk_at "gs"
        rw [show oN (some i) = .int i from rfl]
        walk_at "gs"
        rename_i H4 h4
        refine h_ixI 4 h4 rfl (by omega) (by omega) ?_
        walk_at "gs"
        have xn := (ok.t x hx).n4
        refine h_appI 2 h4 rfl (.inr (by simp)) (by rw [sizeLine_eq]; show st.tb.length < _; omega) fun H5 h5 => ?_
        rw [show ((i : Int) + (st.done : Int) - (c.srd : Int)).toNat = i + (st.done - c.srd) by omega] at h5
        walk_at "gs"
        refine ⟨pn, .inl rfl, by rw [es]; exact told_ne _ _, ?_⟩
        rw [es]
        exact h5
      · have hc2 : ¬ st.done < c.rds := by omega
        have htot : c.tot = c.rds + c.wrs := rfl
        have hrd : c.rds = c.srd + c.trd := rfl
        obtain ⟨hg, hwn⟩ := wrs_get (c := c) (by omega)
        obtain ⟨ep, hpl⟩ := place_is fit
        have es : c.step st D so to = (c.stN st, c.ptN st D so to, c.told (c.stN st)) := by
          unfold Cf.step
          rw [if_neg hc, if_neg hc2]
        walk_at "gs"
        rename_i H4 h4
        rw [ep, show (st.done : Int) - (c.rds : Int) = ((st.done - c.rds : Nat) : Int) by omega]
        refine ⟨w, dx, pb, pt, pn, d, sv, tv, c, ⟨st.done + 1, st.sb, st.tb, st.res, st.nw⟩, D, c.place so to, st.done - c.rds, rfl, h4.rebase [0, 1, 2, 3, 4] [w, d], ok, hg, fun hz => ?_, fun hz => inv.nw (by omega), by omega, by omega, fun pn' H5 e1 e2 h5 => ?_⟩
        · have hd : st.done = c.rds := by omega
          have nb := num_ok (st := st) ok hg (fun hs => inv.res hs (by omega))
          exact ⟨base_len (st := ⟨st.done + 1, st.sb, st.tb, st.res, st.nw⟩) ok hg (by show st.sb.length = _; omega) (by show st.tb.length = _; omega), nb⟩
        · have hp : pn' = pn ∨ H4 pn' = none := by
            by_cases hz : st.done - c.rds = 0
            · exact .inr (e2 hz)
            · exact .inl (e1 hz)
          have h6 := h4.back [] [0, 4] [0, 1, 2, 3, 4] h5 (fun b hb => hb) (fun e he => ?_) (fun b hb => .inr (by
            have hb : b ∈ [w, d] := hb
            simp only [List.mem_cons, List.not_mem_nil, or_false] at hb
            rcases hb with rfl | rfl <;> simp))
          · have h7 := h6.iL
            walk_at "gs"
            refine ⟨pn', ?_, by rw [es]; exact told_ne _ _, ?_⟩
            · rcases hp with hp | hp
              · exact .inl hp
              · refine .inr (fresh0 h4.kp ?_ hp)
                intro m
                have ws : ∀ {b : Addr} (n : Nat) {e : Ent}, (wkE A w dx pb pt pn sv tv c ⟨st.done + 1, st.sb, st.tb, st.res, st.nw⟩ ++ [(d, .raw (.lst (D.map V.int)))])[n]? = some (b, e) → H4 b ≠ none := fun {b} n {e} hn z => by
                  obtain ⟨o, ho⟩ := (h4.at_ n b e hn).some
                  rw [z] at ho
                  cases ho
                simp only [List.mem_cons, List.not_mem_nil, or_false] at m
                rcases m with rfl | rfl | rfl | rfl
                · exact ws 0 rfl hp
                · exact ws 1 rfl hp
                · exact ws 2 rfl hp
                · exact ws 4 rfl hp
            · rw [es]
              have e3 : c.stN st = ⟨st.done + 1, st.sb, st.tb, st.res, if st.done - c.rds = 0 then c.mk ⟨st.done + 1, st.sb, st.tb, st.res, st.nw⟩ else st.nw⟩ := by
                unfold Cf.stN
                by_cases hz : st.done = c.rds
                · rw [if_pos hz, if_pos (by omega)]
                  rfl
                · rw [if_neg hz, if_neg (by omega)]
              show Led K H [w, pb, pt, d] H5 (wkE A w dx pb pt pn' sv tv c (c.stN st) ++ [(d, .raw (.lst ((D.set (c.place so to + (st.done - c.rds)) ((c.stN st).nw.getD (st.done - c.rds) 0)).map V.int)))]) (wkI sv tv c)
              rw [e3]
              exact h7
          · rcases List.mem_append.mp he with he | he
            · rcases wk_hd he hp with m | m
              · exact .inl (by
                  show e.1 ∈ [w, pb, pt, pn, d]
                  simp only [List.mem_cons, List.not_mem_nil, or_false] at m ⊢
                  rcases m with m | m | m | m <;> simp [m])
              · exact .inr m
            · rw [List.mem_singleton.mp he]
              exact .inl (by show d ∈ [w, pb, pt, pn, d]; simp)
  · rintro σ H2 ⟨rfl, pn', hp, hne, h2⟩
    have et := step_told c st D so to hne
    have ed := step_done c st D so to
    have k := fun q H' => k q pn' H' hne hp
    rw [et] at k
    generalize hst : (c.step st D so to).1 = st' at *
    generalize (c.step st D so to).2.1 = D' at *
    walk_at "gs"
    rename_i H3 h3
    refine h_br (fun hc => ?_) (fun hc => ?_)
    · have et : c.told st' = .going := by unfold Cf.told; exact if_pos (by omega)
      rw [et] at k
      walk_at "gs"
      rename_i q H4 h4
      exact k q H4 h4
    · have et : c.told st' = .done (if c.isSet = true then none else st'.res) := by unfold Cf.told; exact if_neg (by omega)
      rw [et] at k
      walk_at "gs"
      rw [kd_set]
      refine h_brEv (oI (if c.isSet = true then none else st'.res)) (fun hs Q' k => ?_) (fun hs Q' k => ?_) ?_
      · rw [if_pos hs] at k
        walk_at "gs"
        exact k
      · rw [hs, if_neg Bool.false_ne_true] at k
        walk_at "gs"
        exact k
      refine h_tup h3 (by rw [sizeLine_eq]; show 2 ≤ _; omega) (Ims.cons (.str _) (Ims.cons (im_oI _) .nil)) fun q H4 h4 => ?_
      exact k q H4 h4

/-! ### the promises of the helpers of the laws on works -/
def sp__law_same (K : PySem.W.Frag) (A : Ad) : Sp := fun vs H Q _ => ∃ (x y : V) (d : PyData) (n W : Nat), vs = [x, y] ∧ Dp K H x d ∧ Dp K H y d ∧ shw n W d ∧ n ≤ 60 ∧ W ≤ 2 ^ 20 ∧ Q (.bl true) H
def sp__law_bounds (K : PySem.W.Frag) (A : Ad) : Sp := fun vs H Q _ => ∃ (a : Addr) (x : S5), vs = [.ref a] ∧ Im K H (.ref a) (d5 x) ∧ x.Ok ∧ ∀ p H', Same H H' → H p = none → H' p = some (.lst [.int (lo x.w x.s), .int (hi x.w x.s)]) → Q (.ref p) H'
def sp__law_a_slot (K : PySem.W.Frag) (A : Ad) : Sp := fun vs H Q _ => ∃ (b g : Addr) (ds : List Int) (i : Int), vs = [.ref b] ∧ H b = some (.lst [.ref g, .int i]) ∧ H g = some (.lst (ds.map V.int)) ∧ b ≠ g ∧ 0 ≤ i ∧ i < 2 ^ 55 ∧
  ∀ p H' j (x : S5), i ≤ j → j ≤ i + 10 → KBs H H' [b] → H' b = some (.lst [.ref g, .int j]) → x.Ok → Im K H' (.ref p) (d5 x) → Q (.ref p) H'
def sp__law_some (K : PySem.W.Frag) (A : Ad) : Sp := fun vs H Q _ => ∃ (b g a : Addr) (ds : List Int) (i : Int) (x : S5), vs = [.ref b, .ref a] ∧ H b = some (.lst [.ref g, .int i]) ∧ H g = some (.lst (ds.map V.int)) ∧ b ≠ g ∧ 0 ≤ i ∧ i < 2 ^ 55 ∧ Im K H (.ref a) (d5 x) ∧ x.Ok ∧
  ∀ z H' j, i ≤ j → j ≤ i + 10 → KBs H H' [b] → H' b = some (.lst [.ref g, .int j]) → x.inB z → Q (.int z) H'
def sp__law_some_work (K : PySem.W.Frag) (A : Ad) : Sp := fun vs H Q _ => ∃ (b g : Addr) (ds : List Int) (i : Int), vs = [.ref b] ∧ H b = some (.lst [.ref g, .int i]) ∧ H g = some (.lst (ds.map V.int)) ∧ b ≠ g ∧ 0 ≤ i ∧ i < 2 ^ 50 ∧
  ∀ p H' j (c : Cf) (sv tv : V), i ≤ j → j ≤ i + 100 → c.Ok → H p = none → Led K H [b] H' [(p, .raw (.lst [.str c.kind, sv, tv, oI c.val])), (b, .raw (.lst [.ref g, .int j])), (g, .raw (.lst (ds.map V.int)))] (wkI sv tv c) → Q (.ref p) H'
def sp__law_told (K : PySem.W.Frag) (A : Ad) : Sp := fun vs H Q _ => ∃ (w dx pb pt pn d : Addr) (sv tv : V) (c : Cf) (st : Ws) (D : List Int) (so to : Option Nat), vs = [.ref w, .ref d, oN so, oN to] ∧ Led K H [w, pb, pt, d] H (wkE A w dx pb pt pn sv tv c st ++ [(d, .raw (.lst (D.map V.int)))]) (wkI sv tv c) ∧ c.Ok ∧ c.Inv st ∧ st.done < c.tot ∧ c.Fit D.length so to ∧
  ∀ q pn' H', (pn' = pn ∨ H pn' = none) → Led K H [w, pb, pt, d] H' (wkE A w dx pb pt pn' sv tv c (c.step st D so to).1 ++ [(d, .raw (.lst ((c.step st D so to).2.1.map V.int)))]) ((.ref q, .tuple (oT (c.step st D so to).2.2)) :: wkI sv tv c) → Q (.ref q) H'
theorem step_range {c : Cf} {st : Ws} {D : List Int} {so to : Option Nat} (h : (c.step st D so to).2.2 = .range) : (c.step st D so to).2.1 = D := by
  unfold Cf.step at h ⊢
  split
  · rename_i h1
    split
    · dsimp only
      split <;> rfl
    · rfl
  · rename_i h1
    rw [if_neg h1] at h
    split
    · rfl
    · rename_i h2
      rw [if_neg h2] at h
      exact absurd h (told_ne _ _)
section
variable {K : PySem.W.Frag} {A : Ad} {H0 H : Hp} {S : List Addr} {L : List (Addr × Ent)} {I : List (V × PyData)} {Q : VK} {E : XK} {a b g : Addr} {ds : List Int} {i : Int} {x y : V} {z : S5}
theorem h_same {d : PyData} {n W : Nat} (hx : Dp K H x d) (hy : Dp K H y d) (h : shw n W d) (k : Q (.bl true) H) (h1 : n ≤ 60 := by decide) (h2 : W ≤ 2 ^ 20 := by decide) : sp__law_same K A [x, y] H Q E := ⟨x, y, d, n, W, rfl, hx, hy, h, h1, h2, k⟩
theorem h_sameI {i j : Int} (q : i = j) (h : i.natAbs < 10 ^ 12) (k : Q (.bl true) H) : sp__law_same K A [.int i, .int j] H Q E := by subst q; exact h_same (.int i) (.int i) (shw_int h) k
theorem h_lbounds (h : Led K H0 S H L I) (hi' : Im K H (.ref a) (d5 z)) (ok : z.Ok) (k : ∀ p H', (H0 p = none ∨ p ∈ S) → Led K H0 S H' ((p, .raw (.lst [.int (lo z.w z.s), .int (hi z.w z.s)])) :: L) I → Q (.ref p) H') : sp__law_bounds K A [.ref a] H Q E :=
  ⟨a, z, rfl, hi', ok, fun p H' sm hp he => k p H' (h.fr hp) (h.new sm hp he)⟩
theorem h_aslot (n : Nat) (h : Led K H0 S H L I) (e : L[n]? = some (b, .raw (.lst [.ref g, .int i]))) (e2 : L[n + 1]? = some (g, .raw (.lst (ds.map V.int)))) (h0 : 0 ≤ i) (h1 : i < 2 ^ 55)
    (hs : H0 b = none ∨ b ∈ S) (k : ∀ p H' j (x : S5), i ≤ j → j ≤ i + 10 → x.Ok → Led K H0 S H' (L.set n (b, .raw (.lst [.ref g, .int j]))) ((.ref p, d5 x) :: I) → Q (.ref p) H') : sp__law_a_slot K A [.ref b] H Q E :=
  ⟨b, g, ds, i, rfl, h.raw n e, h.raw (n + 1) e2, h.ne n (n + 1) e e2 (by omega), h0, h1, fun p H' j x j0 j1 kb he ok hi' => k p H' j x j0 j1 ok ((h.wr (e' := .raw (.lst [.ref g, .int j])) n e kb (h.raw n e) rfl he hs).imNew hi')⟩
theorem h_some (n : Nat) (h : Led K H0 S H L I) (e : L[n]? = some (b, .raw (.lst [.ref g, .int i]))) (e2 : L[n + 1]? = some (g, .raw (.lst (ds.map V.int)))) (h0 : 0 ≤ i) (h1 : i < 2 ^ 55) (hi' : Im K H (.ref a) (d5 z)) (ok : z.Ok)
    (hs : H0 b = none ∨ b ∈ S) (k : ∀ v H' j, i ≤ j → j ≤ i + 10 → z.inB v → Led K H0 S H' (L.set n (b, .raw (.lst [.ref g, .int j]))) I → Q (.int v) H') : sp__law_some K A [.ref b, .ref a] H Q E :=
  ⟨b, g, a, ds, i, z, rfl, h.raw n e, h.raw (n + 1) e2, h.ne n (n + 1) e e2 (by omega), h0, h1, hi', ok, fun v H' j j0 j1 kb he hv => k v H' j j0 j1 hv (h.wr (e' := .raw (.lst [.ref g, .int j])) n e kb (h.raw n e) rfl he hs)⟩
theorem d5_is : d5 z = .tuple [.int z.n, .bool z.big, .int z.f, .int z.w, .bool z.s] := rfl
end

theorem lo_eq {w : Nat} {s : Bool} (hw : 1 ≤ w) (hs : s = true) : 0 - 1 * 2 ^ ((w : Int) - 1).toNat = lo w s := by
  subst hs
  rw [show ((w : Int) - 1).toNat = w - 1 by omega, Int.one_mul]
  rfl
theorem hi_eq {w : Nat} {s : Bool} (hw : 1 ≤ w) (hs : s = true) : 1 * 2 ^ ((w : Int) - 1).toNat - 1 = hi w s := by
  subst hs
  rw [show ((w : Int) - 1).toNat = w - 1 by omega, Int.one_mul]
  rfl
def t__law_same (K : PySem.W.Frag) (A : Ad) : TS :=
  (tRet (tOp (mEq K) (tCB (hRepr K) (tCons (mV 0) tNil)) (tCB (hRepr K) (tCons (mV 1) tNil))))
theorem rd__law_same {K : PySem.W.Frag} {A : Ad} {vs : List V} {H : Hp} {Q : VK} {E : XK} (h : sp__law_same K A vs H Q E) : t__law_same K A { nx := fun _ H' => Q .non H', rt := Q } (start ["_law_actual", "_law_due"] vs) H := by
  obtain ⟨x, y, d, n, W, rfl, hx, hy, hs, h1, h2, k⟩ := h
  show t__law_same K A _ [some x, some y] H
  unfold t__law_same
  walk_at "gs"
  refine h_repr hx hs ?_ h1 h2
  walk_at "gs"
  refine h_repr hy hs ?_ h1 h2
  walk_at "gs"
  rw [eqS_t rfl]
  exact k
def t__law_bounds (K : PySem.W.Frag) (A : Ad) : TS :=
  (tSeq (mIf (mTr K (tOp (rIx K) (mV 0) (tC (.int 4))))
    (tRet (tLst (tCons (tOp mSub (tC (.int 0)) (tOp mShl (tC (.int 1)) (tOp mSub (tOp (rIx K) (mV 0) (tC (.int 3))) (tC (.int 1))))) (tCons (tOp mSub (tOp mShl (tC (.int 1)) (tOp mSub (tOp (rIx K) (mV 0) (tC (.int 3))) (tC (.int 1)))) (tC (.int 1))) tNil))))
    tNext)
  (tRet (tLst (tCons (tC (.int 0)) (tCons (tOp mSub (tOp mShl (tC (.int 1)) (tOp (rIx K) (mV 0) (tC (.int 3)))) (tC (.int 1))) tNil)))))
theorem rd__law_bounds {K : PySem.W.Frag} {A : Ad} {vs : List V} {H : Hp} {Q : VK} {E : XK} (h : sp__law_bounds K A vs H Q E) : t__law_bounds K A { nx := fun _ H' => Q .non H', rt := Q } (start ["_law_slot_here"] vs) H := by
  obtain ⟨a, x, rfl, hx, ok, k⟩ := h
  show t__law_bounds K A _ [some (.ref a)] H
  unfold t__law_bounds
  obtain ⟨n0, n4, w0, fw⟩ := ok
  have hL : Led K H [] H [] [(.ref a, .tuple [.int x.n, .bool x.big, .int x.f, .int x.w, .bool x.s])] := Led.start.imNew hx
  walk_at "gs"
  refine h_brb (fun hs => ?_) (fun hs => ?_)
  · walk_at "gs"
    rename_i p H1 np h1
    rw [lo_eq w0 hs, hi_eq w0 hs] at h1
    exact k p H1 (KBs.same h1.kp) (np.elim id fun z => nomatch z) (h1.raw 0 rfl)
  · walk_at "gs"
    rename_i p H1 np h1
    rw [show (0 : Int) = lo x.w x.s by unfold lo; rw [hs]; rfl, show 1 * 2 ^ ((x.w : Int)).toNat - 1 = hi x.w x.s by unfold hi; rw [hs, Int.one_mul]; rfl] at h1
    exact k p H1 (KBs.same h1.kp) (np.elim id fun z => nomatch z) (h1.raw 0 rfl)
def t__law_a_slot (K : PySem.W.Frag) (A : Ad) : TS :=
  (tSeq (tAsg (tOp (rIx K) (tLst (tCons (tC (.int 1)) (tCons (tC (.int 2)) (tCons (tC (.int 4)) tNil)))) (tCall (sp__law_draw K A) [] E0 (tCons (mV 0) (tCons (tC (.int 3)) tNil)))) (gName 1))
  (tSeq (tAsg (tC (.int 0)) (gName 2))
  (tSeq (tAsg (tOp mMul (tC (.int 8)) (mV 1)) (gName 3))
  (mCut (mIf (mTest (tOp (mEq K) (tCall (sp__law_draw K A) [] E0 (tCons (mV 0) (tCons (tC (.int 2)) tNil))) (tC (.int 0))))
    (tSeq (tAsg (tCall (sp__law_draw K A) [] E0 (tCons (mV 0) (tCons (tOp mMul (tC (.int 8)) (mV 1)) tNil))) (gName 2))
  (tAsg (tOp (mAdd K) (tC (.int 1)) (tCall (sp__law_draw K A) [] E0 (tCons (mV 0) (tCons (tOp mSub (tOp mMul (tC (.int 8)) (mV 1)) (mV 2)) tNil)))) (gName 3)))
    tNext)
  (tRet (tTup (tCons (mV 1) (tCons (tOp (mEq K) (tCall (sp__law_draw K A) [] E0 (tCons (mV 0) (tCons (tC (.int 2)) tNil))) (tC (.int 1))) (tCons (mV 2) (tCons (mV 3) (tCons (tOp (mEq K) (tCall (sp__law_draw K A) [] E0 (tCons (mV 0) (tCons (tC (.int 2)) tNil))) (tC (.int 1))) tNil)))))))))))
theorem rd__law_a_slot {K : PySem.W.Frag} {A : Ad} {vs : List V} {H : Hp} {Q : VK} {E : XK} (h : sp__law_a_slot K A vs H Q E) : t__law_a_slot K A { nx := fun _ H' => Q .non H', rt := Q } (start ["_law_box", "_law_size", "_law_first", "_law_width"] vs) H := by
  obtain ⟨b, g, ds, i, rfl, hb, hg, hbg, h0, h1, k⟩ := h
  show t__law_a_slot K A _ [some (.ref b), none, none, none] H
  unfold t__law_a_slot
  have hL : Led K H [b] H [(b, .raw (.lst [.ref g, .int i])), (g, .raw (.lst (ds.map V.int)))] [] := Led.mk2 hb hg hbg
  walk_at "gs"
  rename_i q H3 nq h4 z H4 hz0 hz1 h5
  refine h_ixL 0 h5 rfl (at_ints (ns := [1, 2, 4]) hz0 hz1) ?_
  obtain ⟨n, hn, n1, n4⟩ : ∃ n : Nat, ([1, 2, 4] : List Int).getD z.toNat 0 = n ∧ 1 ≤ n ∧ n ≤ 4 := by
    rcases (show z = 0 ∨ z = 1 ∨ z = 2 by omega) with rfl | rfl | rfl
    · exact ⟨1, rfl, by decide, by decide⟩
    · exact ⟨2, rfl, by decide, by decide⟩
    · exact ⟨4, rfl, by decide, by decide⟩
  rw [hn]
  have h6 := h5.tlL
  clear h5 h4 hL
  walk_at "gs"
  refine h_cut (fun σ H' => ∃ (j : Int) (f w : Nat), σ = [some (.ref b), some (.int n), some (.int f), some (.int w)] ∧ 1 ≤ w ∧ f + w ≤ 8 * n ∧ i + 2 ≤ j ∧ j ≤ i + 5 ∧ Led K H [b] H' [(b, .raw (.lst [.ref g, .int j])), (g, .raw (.lst (ds.map V.int)))] []) ?_ ?_
  · walk_at "gs"
    rename_i z2 H5 z20 z21 h7
    refine h_br (fun hc => ?_) (fun hc => ?_)
    · walk_at "gs"
      rename_i zf H6 f0 f1 h8 zw H7 w0 w1 h9
      obtain ⟨f, rfl⟩ := Int.eq_ofNat_of_zero_le f0
      obtain ⟨w, rfl⟩ := Int.eq_ofNat_of_zero_le w0
      exact ⟨_, f, 1 + w, rfl, by omega, by omega, by omega, by omega, h9⟩
    · walk_at "gs"
      exact ⟨_, 0, 8 * n, rfl, by omega, by omega, by omega, by omega, h7⟩
  · rintro σ H5 ⟨j, f, w, rfl, w0, fw, j0, j1, h7⟩
    walk_at "gs"
    rename_i za H6 a0 a1 h8 zb H7 b0 b1 h9 p H8 h10
    exact k p H8 _ ⟨n, decide (za = 1), f, w, decide (zb = 1)⟩ (by omega) (by omega) h10.kp (h10.raw 0 rfl) ⟨n1, n4, w0, fw⟩ (h10.im 0 _ _ rfl)

theorem num5 {z : Int} (h0 : 0 ≤ z) (h1 : z < 5) : z = 0 ∨ z = 1 ∨ z = 2 ∨ z = 3 ∨ z = 4 := by omega
theorem gd0 (a b c d e x : Str) : [a, b, c, d, e].getD (Int.toNat 0) x = a := rfl
theorem gd1 (a b c d e x : Str) : [a, b, c, d, e].getD (Int.toNat 1) x = b := rfl
theorem gd2 (a b c d e x : Str) : [a, b, c, d, e].getD (Int.toNat 2) x = c := rfl
theorem gd3 (a b c d e x : Str) : [a, b, c, d, e].getD (Int.toNat 3) x = d := rfl
theorem gd4 (a b c d e x : Str) : [a, b, c, d, e].getD (Int.toNat 4) x = e := rfl
theorem at5 (a b c d e x : Str) {z : Int} (h0 : 0 ≤ z) (h1 : z < 5) : atI [V.str a, .str b, .str c, .str d, .str e] z = some (.str ([a, b, c, d, e].getD z.toNat x)) :=
  at_nn h0 (by rcases num5 h0 h1 with rfl | rfl | rfl | rfl | rfl <;> rfl)
def t__law_some (K : PySem.W.Frag) (A : Ad) : TS :=
  (tSeq (tAsg (tCall (sp__law_bounds K A) [] E0 (tCons (mV 1) tNil)) (gName 2))
  (tSeq (tAsg (tOp (mAdd K) (tOp mSub (tOp (rIx K) (mV 2) (tC (.int 1))) (tOp (rIx K) (mV 2) (tC (.int 0)))) (tC (.int 1))) (gName 3))
  (tSeq (tAsg (tCall (sp__law_draw K A) [] E0 (tCons (mV 0) (tCons (tC (.int 5)) tNil))) (gName 4))
  (tSeq (mIf (mTest (tOp (mEq K) (mV 4) (tC (.int 0))))
    (tRet (tOp (rIx K) (mV 2) (tC (.int 0))))
    tNext)
  (tSeq (mIf (mTest (tOp (mEq K) (mV 4) (tC (.int 1))))
    (tRet (tOp (rIx K) (mV 2) (tC (.int 1))))
    tNext)
  (tRet (tOp (mAdd K) (tOp (rIx K) (mV 2) (tC (.int 0))) (tOp mMod (tCB mInt (tCons (tOp (mAdd K) (tOp mMul (tCall (sp__law_draw K A) [] E0 (tCons (mV 0) (tCons (tC (.int 1000)) tNil))) (tC (.int 1000003))) (tCall (sp__law_draw K A) [] E0 (tCons (mV 0) (tCons (tC (.int 1000)) tNil)))) tNil)) (mV 3)))))))))
theorem rd__law_some {K : PySem.W.Frag} {A : Ad} {vs : List V} {H : Hp} {Q : VK} {E : XK} (h : sp__law_some K A vs H Q E) : t__law_some K A { nx := fun _ H' => Q .non H', rt := Q } (start ["_law_box", "_law_slot_here", "_law_ends", "_law_span", "_law_kind"] vs) H := by
  obtain ⟨b, g, a, ds, i, x, rfl, hb, hg, hbg, h0, h1, hx, ok, k⟩ := h
  show t__law_some K A _ [some (.ref b), some (.ref a), none, none, none] H
  unfold t__law_some
  have hL : Led K H [b] H [(b, .raw (.lst [.ref g, .int i])), (g, .raw (.lst (ds.map V.int)))] [] := Led.mk2 hb hg hbg
  obtain ⟨lh1, lh2⟩ := lo_hi (w := x.w) (s := x.s) ok.w0
  walk_at "gs"
  refine h_lbounds hL hx ok fun p H1 np h2 => ?_
  clear hL
  walk_at "gs"
  rename_i z H2 z0 z1 h3
  have fin : ∀ {H' : Hp} {v j : Int} {X : List (Addr × Ent)} {I : List (V × PyData)}, x.inB v → i ≤ j → j ≤ i + 10 → Led K H [b] H' ((p, .raw (.lst [.int (lo x.w x.s), .int (hi x.w x.s)])) :: (b, .raw (.lst [.ref g, .int j])) :: X) I → Q (.int v) H' := fun hv j0 j1 hl => k _ _ _ j0 j1 hl.kp (hl.raw 1 rfl) hv
  refine h_br (fun hc => ?_) (fun hc => ?_)
  · walk_at "gs"
    exact fin ⟨Int.le_refl _, lh1⟩ (by omega) (by omega) h3
  · walk_at "gs"
    refine h_br (fun hc => ?_) (fun hc => ?_)
    · walk_at "gs"
      exact fin ⟨lh1, Int.le_refl _⟩ (by omega) (by omega) h3
    · walk_at "gs"
      rename_i z3 H3 z30 z31 h4 z4 H4 z40 z41 h5
      have b1 := Int.emod_nonneg (z3 * 1000003 + z4) (show hi x.w x.s - lo x.w x.s + 1 ≠ 0 by omega)
      have b2 := Int.emod_lt_of_pos (z3 * 1000003 + z4) (show 0 < hi x.w x.s - lo x.w x.s + 1 by omega)
      exact fin ⟨by omega, by omega⟩ (by omega) (by omega) h5
theorem at5k (a b c d e : Str) {z : Int} (h0 : 0 ≤ z) (h1 : z < 5) : ∃ kd : Str, atI [V.str a, .str b, .str c, .str d, .str e] z = some (.str kd) ∧ (kd = a ∨ kd = b ∨ kd = c ∨ kd = d ∨ kd = e) := by
  rcases num5 h0 h1 with rfl | rfl | rfl | rfl | rfl
  · exact ⟨a, rfl, .inl rfl⟩
  · exact ⟨b, rfl, .inr (.inl rfl)⟩
  · exact ⟨c, rfl, .inr (.inr (.inl rfl))⟩
  · exact ⟨d, rfl, .inr (.inr (.inr (.inl rfl)))⟩
  · exact ⟨e, rfl, .inr (.inr (.inr (.inr rfl)))⟩
def t__law_some_work (K : PySem.W.Frag) (A : Ad) : TS :=
  (tSeq (tAsg (tOp (rIx K) (tLst (tCons (tC (.str "get")) (tCons (tC (.str "set")) (tCons (tC (.str "add")) (tCons (tC (.str "exchange")) (tCons (tC (.str "copy")) tNil)))))) (tCall (sp__law_draw K A) [] E0 (tCons (mV 0) (tCons (tC (.int 5)) tNil)))) (gName 1))
  (tSeq (tAsg (tCall (sp__law_a_slot K A) [] E0 (tCons (mV 0) tNil)) (gName 2))
  (tSeq (tAsg (tCall (sp__law_a_slot K A) [] E0 (tCons (mV 0) tNil)) (gName 3))
  (tSeq (mIf (mTest (tOp (mEq K) (mV 1) (tC (.str "set"))))
    (tRet (tLst (tCons (mV 1) (tCons (tC .non) (tCons (mV 3) (tCons (tCall (sp__law_some K A) [] E0 (tCons (mV 0) (tCons (mV 3) tNil))) tNil))))))
    tNext)
  (tSeq (mIf (mTest (tOp (mEq K) (mV 1) (tC (.str "copy"))))
    (mCut (mIf (mTest (tOp (mEq K) (tCall (sp__law_draw K A) [] E0 (tCons (mV 0) (tCons (tC (.int 2)) tNil))) (tC (.int 0))))
    (tAsg (mV 2) (gName 3))
    tNext)
  (tRet (tLst (tCons (mV 1) (tCons (mV 2) (tCons (mV 3) (tCons (tC .non) tNil)))))))
    tNext)
  (tSeq (tAsg (tC .non) (gName 4))
  (mCut (mIf (mTest (tOp (mEq K) (mV 1) (tC (.str "add"))))
    (tAsg (tOp (rIx K) (tLst (tCons (tCall (sp__law_some K A) [] E0 (tCons (mV 0) (tCons (mV 2) tNil))) (tCons (tOp mSub (tCall (sp__law_draw K A) [] E0 (tCons (mV 0) (tCons (tC (.int 5)) tNil))) (tC (.int 2))) tNil))) (tCall (sp__law_draw K A) [] E0 (tCons (mV 0) (tCons (tC (.int 2)) tNil)))) (gName 4))
    tNext)
  (mCut (mIf (mTest (tOp (mEq K) (mV 1) (tC (.str "exchange"))))
    (tAsg (tCall (sp__law_some K A) [] E0 (tCons (mV 0) (tCons (mV 2) tNil))) (gName 4))
    tNext)
  (tRet (tLst (tCons (mV 1) (tCons (mV 2) (tCons (tC .non) (tCons (mV 4) tNil))))))))))))))
theorem rd__law_some_work {K : PySem.W.Frag} {A : Ad} {vs : List V} {H : Hp} {Q : VK} {E : XK} (h : sp__law_some_work K A vs H Q E) : t__law_some_work K A { nx := fun _ H' => Q .non H', rt := Q } (start ["_law_box", "_law_kind", "_law_source", "_law_target", "_law_value"] vs) H := by
  obtain ⟨b, g, ds, i, rfl, hb, hg, hbg, h0, h1, k⟩ := h
  show t__law_some_work K A _ [some (.ref b), none, none, none, none] H
  unfold t__law_some_work
  have hL : Led K H [b] H [(b, .raw (.lst [.ref g, .int i])), (g, .raw (.lst (ds.map V.int)))] [] := Led.mk2 hb hg hbg
  walk_at "gs"
  rename_i q H3 nq h4 z H4 hz0 hz1 h5
  obtain ⟨kd, hat, hk⟩ := at5k "get" "set" "add" "exchange" "copy" hz0 hz1
  refine h_ixL 0 h5 rfl hat ?_
  have h6 := h5.tlL
  clear h5 h4 hL hat
  walk_at "gs"
  refine h_aslot 0 h6 rfl rfl (by omega) (by omega) (.inr (by simp)) fun p1 H5 j1 s j10 j11 sok h7 => ?_
  walk_at "gs"
  refine h_aslot 0 h7 rfl rfl (by omega) (by omega) (.inr (by simp)) fun p2 H6 j2 t j20 j21 tok h8 => ?_
  have h8 : Led K H [b] H6 [(b, .raw (.lst [.ref g, .int j2])), (g, .raw (.lst (ds.map V.int)))] [(.ref p2, d5 t), (.ref p1, d5 s)] := h8
  clear h7 h6
  walk_at "gs"
  have fr : ∀ {p : Addr} {H' : Hp} {j : Int} {e : Ent} {X : List (Addr × Ent)} {I : List (V × PyData)}, (H p = none ∨ p ∈ [b]) → Led K H [b] H' ((p, e) :: (b, .raw (.lst [.ref g, .int j])) :: X) I → H p = none := fun np hl => np.elim id fun z => absurd (List.mem_singleton.mp z) (hl.ne 0 1 rfl rfl (by decide))
  have i1 := h8.im 1 _ _ rfl
  have i2 := h8.im 0 _ _ rfl
  have k : ∀ p H' j (c : Cf) (sv tv : V), c.kind = kd → i ≤ j → j ≤ i + 100 → c.Ok → H p = none → Led K H [b] H' [(p, .raw (.lst [.str kd, sv, tv, oI c.val])), (b, .raw (.lst [.ref g, .int j])), (g, .raw (.lst (ds.map V.int)))] (wkI sv tv c) → Q (.ref p) H' := fun p H' j c sv tv e a1 a2 a3 a4 a5 => k p H' j c sv tv a1 a2 a3 a4 (by rw [e]; exact a5)
  refine h_brS (fun hc => ?_) (fun n1 => ?_)
  · walk_at "gs"
    refine h_some 0 h8 rfl rfl (by omega) (by omega) i2 tok (.inr (by simp)) fun v H7 j3 j30 j31 hv h9 => ?_
    clear h8
    walk_at "gs"
    rename_i p H9 np h11
    exact k p H9 j3 (.set t v) .non (.ref p2) hc.symm (by omega) (by omega) ⟨fun x e => (nomatch e), fun x e => by cases e; exact tok, fun _ v' e => by cases e; exact hv⟩ (fr np h11) ((h11.noI.imNew (h11.im 0 _ _ rfl)).imNew .non)
  walk_at "gs"
  refine h_brS (fun hc => ?_) (fun n2 => ?_)
  · walk_at "gs"
    refine h_cut (fun σ H' => ∃ (p3 : Addr) (t : S5), t.Ok ∧ σ = [some (.ref b), some (.str kd), some (.ref p1), some (.ref p3), none] ∧ ∃ j, j2 ≤ j ∧ j ≤ j2 + 20 ∧ Led K H [b] H' [(b, .raw (.lst [.ref g, .int j])), (g, .raw (.lst (ds.map V.int)))] [(.ref p3, d5 t), (.ref p1, d5 s)]) ?_ ?_
    · walk_at "gs"
      rename_i z1 H9 z10 z11 h10
      refine h_br (fun _ => ?_) (fun _ => ?_)
      · walk_at "gs"
        exact ⟨p1, s, sok, rfl, _, by omega, by omega, h10.tl.imNew (h10.im 1 _ _ rfl)⟩
      · walk_at "gs"
        exact ⟨p2, t, tok, rfl, _, by omega, by omega, h10⟩
    rintro σ H7 ⟨p3, t, tok, rfl, j3, j30, j31, h9⟩
    walk_at "gs"
    rename_i p H9 np h11
    exact k p H9 j3 (.copy s t) (.ref p1) (.ref p3) hc.symm (by omega) (by omega) ⟨fun x e => by cases e; exact sok, fun x e => by cases e; exact tok, fun e => (nomatch e)⟩ (fr np h11) ((h11.noI.imNew (h11.im 0 _ _ rfl)).imNew (h11.im 1 _ _ rfl))
  walk_at "gs"
  refine h_cut (fun σ H' => ∃ ov : Option Int, σ = [some (.ref b), some (.str kd), some (.ref p1), some (.ref p2), some (oI ov)] ∧ (kd = "add" → ∃ v, ov = some v) ∧ (kd ≠ "add" → ov = none) ∧ ∃ j, j2 ≤ j ∧ j ≤ j2 + 20 ∧ Led K H [b] H' [(b, .raw (.lst [.ref g, .int j])), (g, .raw (.lst (ds.map V.int)))] [(.ref p2, d5 t), (.ref p1, d5 s)]) ?_ ?_
  · walk_at "gs"
    refine h_brS (fun hc => ?_) (fun n3 => ?_)
    · walk_at "gs"
      refine h_some 0 h8 rfl rfl (by omega) (by omega) i1 sok (.inr (by simp)) fun v H7 j3 j30 j31 hv h9 => ?_
      clear h8
      walk_at "gs"
      rename_i z1 H9 z10 z11 h10 q3 H10 nq3 h11 z2 H11 z20 z21 h12
      refine h_ixL 0 h12 rfl (at_ints (ns := [v, z1 - 2]) z20 z21) ?_
      walk_at "gs"
      exact ⟨some _, rfl, fun _ => ⟨_, rfl⟩, fun z => absurd hc z, _, by omega, by omega, h12.tlL⟩
    · walk_at "gs"
      exact ⟨none, rfl, fun z => absurd z n3, fun _ => rfl, _, Int.le_refl _, by omega, h8⟩
  rintro σ H7 ⟨ov, rfl, ov1, ov2, j3, j30, j31, h9⟩
  walk_at "gs"
  refine h_cut (fun σ H' => ∃ ov' : Option Int, σ = [some (.ref b), some (.str kd), some (.ref p1), some (.ref p2), some (oI ov')] ∧ (kd = "exchange" → ∃ v, ov' = some v ∧ s.inB v) ∧ (kd ≠ "exchange" → ov' = ov) ∧ ∃ j, j3 ≤ j ∧ j ≤ j3 + 20 ∧ Led K H [b] H' [(b, .raw (.lst [.ref g, .int j])), (g, .raw (.lst (ds.map V.int)))] [(.ref p2, d5 t), (.ref p1, d5 s)]) ?_ ?_
  · walk_at "gs"
    refine h_brS (fun hc => ?_) (fun n4 => ?_)
    · walk_at "gs"
      refine h_some 0 h9 rfl rfl (by omega) (by omega) (h9.im 1 _ _ rfl) sok (.inr (by simp)) fun v H8 j4 j40 j41 hv h10 => ?_
      walk_at "gs"
      exact ⟨some v, rfl, fun _ => ⟨v, rfl, hv⟩, fun z => absurd hc z, _, by omega, by omega, h10⟩
    · walk_at "gs"
      exact ⟨ov, rfl, fun z => absurd z n4, fun _ => rfl, _, by omega, by omega, h9⟩
  rintro σ H8 ⟨ov', rfl, ov3, ov4, j4, j40, j41, h10⟩
  clear h9 h8
  walk_at "gs"
  rename_i p H9 np h11
  have h12 := (h11.noI.imNew .non).imNew (h11.im 1 _ _ rfl)
  have np := fr np h11
  clear h11 h10
  rcases hk with hk | hk | hk | hk | hk
  · have e : ov' = none := (ov4 (by rw [hk]; decide +kernel)).trans (ov2 (by rw [hk]; decide +kernel))
    subst e
    exact k p H9 j4 (.get s) (.ref p1) .non hk.symm (by omega) (by omega) ⟨fun x e => by cases e; exact sok, fun x e => (nomatch e), fun e => (nomatch e)⟩ np h12
  · exact absurd hk n1
  · obtain ⟨v, e⟩ := ov1 hk
    have e : ov' = some v := (ov4 (by rw [hk]; decide +kernel)).trans e
    subst e
    exact k p H9 j4 (.add s v) (.ref p1) .non hk.symm (by omega) (by omega) ⟨fun x e => by cases e; exact sok, fun x e => (nomatch e), fun e => (nomatch e)⟩ np h12
  · obtain ⟨v, e, hv⟩ := ov3 hk
    subst e
    exact k p H9 j4 (.exch s v) (.ref p1) .non hk.symm (by omega) (by omega) ⟨fun x e => by cases e; exact sok, fun x e => (nomatch e), fun _ v' e => by cases e; exact hv⟩ np h12
  · exact absurd hk n2
def t__law_told (K : PySem.W.Frag) (A : Ad) : TS :=
  (mTryOnly K (.ref A.c_OutOfRange) (fun W =>
    (tRet (tMethE A.c_Work "step" (sp_Work_step K A) (WE W) (mV 0) (tCons (mV 1) (tCons (mV 2) (tCons (mV 3) tNil))))))
    (fun a cls d => (tRet (tTup (tCons (tC (.str "range")) tNil)))) wNo)
theorem rd__law_told {K : PySem.W.Frag} {A : Ad} {vs : List V} {H : Hp} {Q : VK} {E : XK} (C : XC K A) (h : sp__law_told K A vs H Q E) : t__law_told K A { nx := fun _ H' => Q .non H', rt := Q } (start ["_law_work", "_law_data", "_law_source_at", "_law_target_at"] vs) H := by
  obtain ⟨w, dx, pb, pt, pn, d, sv, tv, c, st, D, so, to, rfl, h0, ok, inv, hlt, fit, k⟩ := h
  show t__law_told K A _ [some (.ref w), some (.ref d), some (oN so), some (oN to)] H
  unfold t__law_told
  walk_at "gs"
  refine ⟨w, dx, pb, pt, pn, d, sv, tv, c, st, D, so, to, rfl, h0, ok, inv, hlt, fit, fun hr H1 h1 => ?_, fun q pn' H1 hne hp h1 => ?_⟩
  · refine h_wOnlyT C.exm_OutOfRange_OutOfRange fun x hx => ?_
    walk_at "gs"
    rename_i q H2 h2
    refine k q pn H2 (.inl rfl) ?_
    rw [hr, step_range hr]
    exact h2
  · exact k q pn' H1 hp h1

/-! ### more of works, for the laws -/
theorem pick_tail (A X : List (Addr × Ent)) : pickL ((List.range X.length).map (· + A.length)) (A ++ X) = X := by
  refine List.ext_getElem? fun i => ?_
  unfold pickL
  rw [List.map_map, List.getElem?_map]
  by_cases h : i < X.length
  · rw [List.getElem?_range h]
    show some ((A ++ X)[i + A.length]?.getD (0, .dl [])) = X[i]?
    rw [List.getElem?_append_right (by omega), Nat.add_sub_cancel, List.getElem?_eq_getElem h]
    rfl
  · rw [List.getElem?_eq_none (by rw [List.length_range]; omega), List.getElem?_eq_none (by omega)]
    rfl
section
variable {K : PySem.W.Frag} {Ad' : Ad} {H0 H H' : Hp} {S : List Addr} {I : List (V × PyData)} {A X : List (Addr × Ent)}
theorem Led.pre (h : Led K H0 S H (A ++ X) I) (S1 : List Addr) (I1 : List (V × PyData)) (hi : ∀ (n : Nat) v d, I1[n]? = some (v, d) → Im K H v d) : Led K H S1 H A I1 := by
  refine ⟨?_, fun n b e q => h.at_ n b e ?_, hi, KBs.refl⟩
  · have q := h.nd
    rw [List.map_append] at q
    exact (List.nodup_append.mp q).1
  · rw [List.getElem?_append_left (List.getElem?_eq_some_iff.mp q).1]
    exact q
/-- back from a callee that had the entries A and may have changed those at g -/
theorem Led.backA {L1 : List (Addr × Ent)} {I1 : List (V × PyData)} {S1 : List Addr} (h : Led K H0 S H (A ++ X) I) (g : List Nat) (c : Led K H S1 H' L1 I1) (hS : ∀ b ∈ S1, b ∈ adr A g) (hd : ∀ e ∈ L1, e.1 ∈ A.map (·.1) ∨ H e.1 = none) (hs : ∀ b ∈ adr A g, H0 b = none ∨ b ∈ S)
    (hg : (g.all fun n => decide (n < A.length)) = true := by rfl) (hm : (g.all fun n => entMut (A[n]?.getD (0, .dl [])).2) = true := by rfl) : Led K H0 S H' (L1 ++ X) (I1 ++ I) := by
  have inA : ∀ n ∈ g, n < A.length := fun n hn => of_decide_eq_true (List.all_eq_true.mp hg n hn)
  have at1 : ∀ n, n < A.length → (A ++ X)[n]? = A[n]? := fun n hn => List.getElem?_append_left hn
  have adrg : adr (A ++ X) g = adr A g := List.map_congr_left fun n hn => by rw [at1 n (inA n hn)]
  have q := h.back ((List.range X.length).map (· + A.length)) g (List.range A.length) c (by rw [adrg]; exact hS) (fun e he => (hd e he).imp (fun m => by
      obtain ⟨y, hy, hy2⟩ := List.mem_map.mp m
      obtain ⟨i, hi, hi2⟩ := List.getElem_of_mem hy
      refine List.mem_map.mpr ⟨i, List.mem_range.mpr hi, ?_⟩
      rw [at1 i hi, List.getElem?_eq_getElem hi, hi2, ← hy2]
      rfl) id) (by rw [adrg]; exact hs)
    (List.nodup_append.mpr ⟨List.pairwise_map.mpr ((List.nodup_range (n := X.length)).imp fun h e => h (by omega)), List.nodup_range, fun a ha b hb e => by
      obtain ⟨i, _, hi⟩ := List.mem_map.mp ha
      have := List.mem_range.mp hb
      omega⟩)
    (List.all_eq_true.mpr fun n hn => List.contains_iff_mem.mpr (List.mem_range.mpr (inA n hn)))
    (List.all_eq_true.mpr fun n hn => decide_eq_true (by
      rw [List.length_append]
      rcases List.mem_append.mp hn with hn | hn
      · obtain ⟨i, hi, rfl⟩ := List.mem_map.mp hn
        have := List.mem_range.mp hi
        omega
      · have := List.mem_range.mp hn
        omega))
    (List.all_eq_true.mpr fun n hn => by
      rw [at1 n (inA n hn)]
      exact List.all_eq_true.mp hm n hn)
  rw [pick_tail] at q
  exact q
end
/-- where a slot lies, if there is one -/
def plc (o : Option S5) (n : Nat) : Option Nat := if o.isNone = true then none else some n
theorem at_pl (o : Option S5) (n : Nat) {i : Int} (e : i = n) : atI [.int i, .non] (if o.isNone = true then 1 else 0) = some (oN (plc o n)) := by
  subst e
  cases o <;> rfl
theorem fit_pl {c : Cf} (ok : c.Ok) {n p q : Nat} (h1 : p + 4 ≤ n) (h2 : q + 4 ≤ n) : c.Fit n (plc c.src p) (plc c.tgt q) :=
  ⟨fun x e => ⟨p, by rw [e]; rfl, by have := (ok.s x e).n4; omega⟩, fun x e => ⟨q, by rw [e]; rfl, by have := (ok.t x e).n4; omega⟩⟩
theorem inv_start (c : Cf) : c.Inv Ws.start :=
  ⟨Nat.zero_le _, by show 0 = min 0 c.srd; rw [Nat.zero_min], by show 0 = min (0 - c.srd) c.trd; rw [Nat.zero_sub, Nat.zero_min], fun h1 h2 => absurd h2 (by show ¬ c.srd ≤ 0; omega), fun h => absurd h (Nat.not_lt_zero _)⟩
theorem put_lenX (d : List Int) (i : Nat) (x : Int) : (d.set i x).length = d.length := List.length_set
theorem step_len (c : Cf) (st : Ws) (D : List Int) (so to : Option Nat) : (c.step st D so to).2.1.length = D.length := by
  unfold Cf.step
  split
  · split
    · dsimp only
      split <;> rfl
    · rfl
  · split
    · rfl
    · exact List.length_set
theorem step_inv {c : Cf} {st : Ws} {D : List Int} {so to : Option Nat} (ok : c.Ok) (inv : c.Inv st) (hlt : st.done < c.tot) :
    ((c.step st D so to).2.2 = .range ∧ c.chk = true ∧ st.done + 1 = c.srd) ∨
    ((c.step st D so to).2.2 = c.told (c.step st D so to).1 ∧ (c.step st D so to).1.done = st.done + 1 ∧ c.Inv (c.step st D so to).1) := by
  obtain ⟨id, isb, itb, ires, inw⟩ := inv
  have e1 : c.tot = c.srd + c.trd + c.wrs := rfl
  have e2 : c.rds = c.srd + c.trd := rfl
  unfold Cf.step
  by_cases h1 : st.done < c.srd
  · rw [if_pos h1]
    have htb : st.tb.length = 0 := by rw [itb]; omega
    by_cases h2 : st.done + 1 = c.srd
    · rw [if_pos h2]
      dsimp only
      by_cases h3 : c.chk = true ∧ ¬ c.wri.inB (c.resOf (rd5 (c.src.getD c.wri) (c.stS st D so).sb))
      · rw [if_pos h3]
        exact .inl ⟨rfl, h3.1, h2⟩
      · rw [if_neg h3]
        refine .inr ⟨rfl, rfl, ?_, ?_, ?_, fun _ _ => ⟨_, rfl, fun q => Decidable.byContradiction fun n => h3 ⟨q, n⟩⟩, fun q => ?_⟩
        · show st.done + 1 ≤ c.tot
          omega
        · show (st.sb ++ [_]).length = min (st.done + 1) c.srd
          rw [List.length_append, isb, List.length_singleton]
          omega
        · show st.tb.length = min (st.done + 1 - c.srd) c.trd
          omega
        · have q : c.rds < st.done + 1 := q
          omega
    · rw [if_neg h2]
      refine .inr ⟨rfl, rfl, ?_, ?_, ?_, fun _ q => ?_, fun q => ?_⟩
      · show st.done + 1 ≤ c.tot
        omega
      · show (st.sb ++ [_]).length = min (st.done + 1) c.srd
        rw [List.length_append, isb, List.length_singleton]
        omega
      · show st.tb.length = min (st.done + 1 - c.srd) c.trd
        omega
      · have q : c.srd ≤ st.done + 1 := q
        omega
      · have q : c.rds < st.done + 1 := q
        omega
  · rw [if_neg h1]
    by_cases h2 : st.done < c.rds
    · rw [if_pos h2]
      refine .inr ⟨rfl, rfl, ?_, ?_, ?_, fun q _ => ires q (by omega), fun q => ?_⟩
      · show st.done + 1 ≤ c.tot
        omega
      · show st.sb.length = min (st.done + 1) c.srd
        omega
      · show (st.tb ++ [_]).length = min (st.done + 1 - c.srd) c.trd
        rw [List.length_append, itb, List.length_singleton]
        omega
      · have q : c.rds < st.done + 1 := q
        omega
    · rw [if_neg h2]
      have hg : 0 < c.wrs := by omega
      have hb := base_len (st := st) ok (wrs_get hg).1 (by omega) (by omega)
      refine .inr ⟨rfl, ?_, ?_⟩
      · unfold Cf.stN
        split <;> rfl
      · unfold Cf.stN
        split
        · refine ⟨?_, ?_, ?_, fun q _ => ires q (by omega), fun _ => mk_len hb⟩
          · show st.done + 1 ≤ c.tot
            omega
          · show st.sb.length = min (st.done + 1) c.srd
            omega
          · show st.tb.length = min (st.done + 1 - c.srd) c.trd
            omega
        · refine ⟨?_, ?_, ?_, fun q _ => ires q (by omega), fun _ => inw (by omega)⟩
          · show st.done + 1 ≤ c.tot
            omega
          · show st.sb.length = min (st.done + 1) c.srd
            omega
          · show st.tb.length = min (st.done + 1 - c.srd) c.trd
            omega
section
variable {K : PySem.W.Frag} {A : Ad} {H0 H : Hp} {S : List Addr} {L X : List (Addr × Ent)} {I : List (V × PyData)} {Q : VK} {E : XK} {w dx pb pt pn a d : Addr} {sv tv x y : V} {c : Cf} {st : Ws} {D : List Int} {so to : Option Nat}
theorem h_isNo {o : Option S5} (i : Im K H x (oD o)) (k : Q (.bl o.isNone) H) : mIsN x .non H Q := by
  rcases i.oD with ⟨rfl, rfl⟩ | ⟨a, z, rfl, rfl, _⟩
  · exact k
  · exact k
theorem h_inLs (n : Nat) (h : Led K H0 S H L I) {us : List V} (e : L[n]? = some (a, .raw (.lst us))) (f1 : flatV x = true) (f2 : us.all flatV = true) (k : Q (.bl (inV x us)) H) : uIn K x (.ref a) H Q :=
  .inl ⟨a, _, rfl, .inl (h.sqL n e), f1, f2, k⟩
theorem h_ninLs (n : Nat) (h : Led K H0 S H L I) {us : List V} (e : L[n]? = some (a, .raw (.lst us))) (f1 : flatV x = true) (f2 : us.all flatV = true) (k : Q (.bl (!inV x us)) H) : uNin K x (.ref a) H Q :=
  .inl ⟨a, _, rfl, .inl (h.sqL n e), f1, f2, k⟩
theorem h_gLst {n : Nat} {us : List V} {gs : TGs} {σ : L2.St} {Q : L2.St → Hp → Prop} (m : Nat) (h : Led K H0 S H L I) (e : L[m]? = some (a, .raw (.lst us))) (hn : us.length = n) (k : gs us σ H Q) : gLst K n gs (.ref a) σ H Q := ⟨a, us, rfl, h.sqL m e, hn, k⟩
theorem h_mkW (h : Led K H0 S H X I) (k : ∀ w dx pb pt pn H', (H0 w = none ∨ w ∈ S) → (H0 pb = none ∨ pb ∈ S) → (H0 pt = none ∨ pt ∈ S) → (H0 pn = none ∨ pn ∈ S) → Led K H0 S H' (wkE A w dx pb pt pn sv tv c Ws.start ++ X) I → Q (.ref w) H') :
    makeK A.c_Work H fun x H2 => sp_Work___init__ K A [x, .str c.kind, sv, tv, oI c.val] H2 (fun v H3 => v = .non ∧ Q x H3) E := by
  refine h_make h fun w dx H1 nw h1 => ?_
  refine ⟨w, dx, _, _, _, _, rfl, h1.raw 0 rfl, fun pb pt pn H' n1 n2 n3 h2 => ⟨rfl, ?_⟩⟩
  have r := Led.backA (A := [(w, .raw (.ins A.c_Work dx []))]) (X := X) h1 [0] h2 (fun b hb => by simpa [adr] using hb) (fun e he => ?_) (fun b hb => by
    have e : b = w := by simpa [adr] using hb
    rw [e]
    exact nw)
  · exact k w dx pb pt pn H' nw (h1.fr n1) (h1.fr n2) (h1.fr n3) r
  · simp only [List.mem_cons, List.not_mem_nil, or_false] at he
    rcases he with rfl | rfl | rfl | rfl
    · exact .inl (by simp)
    · exact .inr n1
    · exact .inr n2
    · exact .inr n3
theorem h_told (h : Led K H0 S H (wkE A w dx pb pt pn sv tv c st ++ (d, .raw (.lst (D.map V.int))) :: X) I) (i1 : Im K H sv (oD c.src)) (i2 : Im K H tv (oD c.tgt)) (ok : c.Ok) (inv : c.Inv st) (hlt : st.done < c.tot) (fit : c.Fit D.length so to)
    (hw : H0 w = none ∨ w ∈ S) (hpb : H0 pb = none ∨ pb ∈ S) (hpt : H0 pt = none ∨ pt ∈ S) (hd : H0 d = none ∨ d ∈ S)
    (k : ∀ q pn' H', (pn' = pn ∨ H0 pn' = none ∨ pn' ∈ S) → Led K H0 S H' (wkE A w dx pb pt pn' sv tv c (c.step st D so to).1 ++ (d, .raw (.lst ((c.step st D so to).2.1.map V.int))) :: X) ((.ref q, .tuple (oT (c.step st D so to).2.2)) :: I) → Q (.ref q) H') : sp__law_told K A [.ref w, .ref d, oN so, oN to] H Q E := by
  have h0 : Led K H0 S H ((wkE A w dx pb pt pn sv tv c st ++ [(d, .raw (.lst (D.map V.int)))]) ++ X) I := h
  refine ⟨w, dx, pb, pt, pn, d, sv, tv, c, st, D, so, to, rfl, h0.pre _ _ (fun n v d' e => ?_), ok, inv, hlt, fit, fun q pn' H' hp h2 => ?_⟩
  · match n, e with
    | 0, e =>
      cases e
      exact i1
    | 1, e =>
      cases e
      exact i2
  · have r := h0.backA [0, 1, 2, 4] h2 (fun b hb => by simpa [adr, wkE] using hb) (fun e he => ?_) (fun b hb => ?_)
    · exact k q pn' H' (hp.imp id fun z => h.fr z) (r.iR.imNew (r.im 0 _ _ rfl))
    · rcases List.mem_append.mp he with he | he
      · rcases wk_hd (pn := pn) he hp with m | m
        · refine .inl ?_
          simp only [List.mem_cons, List.not_mem_nil, or_false] at m
          simp only [wkE, List.cons_append, List.nil_append, List.map_cons, List.map_nil, List.mem_cons, List.not_mem_nil, or_false]
          rcases m with m | m | m | m <;> simp [m]
        · exact .inr m
      · simp only [List.mem_cons, List.not_mem_nil, or_false] at he
        subst he
        exact .inl (by simp [wkE])
    · have hb : b = w ∨ b = pb ∨ b = pt ∨ b = d := by simpa [adr, wkE] using hb
      rcases hb with rfl | rfl | rfl | rfl
      · exact hw
      · exact hpb
      · exact hpt
      · exact hd
end
def Cf.Out.isR : Cf.Out → Bool | .range => true | _ => false
theorem oT_shaped (o : Cf.Out) : SeqAt.shaped (.tuple (oT o)) = true := by
  cases o with
  | going => simp [oT, SeqAt.shaped, PyData.canLay0, PyData.canLayAll0, PyData.depth, PyData.depthAll]; decide +kernel
  | done r => cases r <;> simp [oT, SeqAt.shaped, PyData.canLay0, PyData.canLayAll0, PyData.depth, PyData.depthAll] <;> decide +kernel
  | range => simp [oT, SeqAt.shaped, PyData.canLay0, PyData.canLayAll0, PyData.depth, PyData.depthAll]; decide +kernel
theorem oT_range (o : Cf.Out) : PyData.eqv (.tuple (oT o)) (.tuple [.str "range"]) = o.isR := by
  cases o with
  | going => decide +kernel
  | done r => cases r <;> rfl
  | range => decide +kernel
theorem step_inv3 {c : Cf} {st : Ws} {D : List Int} {so to : Option Nat} (ok : c.Ok) (inv : c.Inv st) (hlt : st.done < c.tot) :
    ((c.step st D so to).2.2 = .range ∧ c.chk = true ∧ st.done + 1 = c.srd) ∨
    ((c.step st D so to).2.2 = .going ∧ st.done + 1 < c.tot ∧ (c.step st D so to).1.done = st.done + 1 ∧ c.Inv (c.step st D so to).1) ∨
    (∃ r, (c.step st D so to).2.2 = .done r ∧ st.done + 1 = c.tot ∧ (c.step st D so to).1.done = st.done + 1 ∧ c.Inv (c.step st D so to).1) := by
  rcases step_inv (D := D) (so := so) (to := to) ok inv hlt with h | ⟨h1, h2, h3⟩
  · exact .inl h
  · unfold Cf.told at h1
    rw [h2] at h1
    by_cases hl : st.done + 1 < c.tot
    · rw [if_pos hl] at h1
      exact .inr (.inl ⟨h1, hl, h2, h3⟩)
    · rw [if_neg hl] at h1
      exact .inr (.inr ⟨_, h1, by omega, h2, h3⟩)
def Cf.isAE : Cf → Bool | add _ _ => true | exch _ _ => true | _ => false
def Cf.isCopy : Cf → Bool | copy _ _ => true | _ => false
theorem kd_ae (c : Cf) : inV (.str c.kind) [.str "add", .str "exchange"] = c.isAE := by cases c <;> (simp only [Cf.kind, Cf.isAE]; decide +kernel)
theorem kd_copy (c : Cf) : eqS c.kind "copy" = c.isCopy := by cases c <;> first | exact eqS_t rfl | exact eqS_f (by simp only [Cf.kind]; decide +kernel)
theorem tot_le {c : Cf} (ok : c.Ok) : c.tot ≤ 12 := by
  cases c with
  | get s => have := (ok.s s rfl).n4; show s.n + 0 + 0 ≤ 12; omega
  | set t v => have := (ok.t t rfl).n4; show 0 + (if t.whole = true then 0 else t.n) + t.n ≤ 12; split <;> omega
  | add s v => have := (ok.s s rfl).n4; show s.n + 0 + s.n ≤ 12; omega
  | exch s v => have := (ok.s s rfl).n4; show s.n + 0 + s.n ≤ 12; omega
  | copy s t => have := (ok.s s rfl).n4; have := (ok.t t rfl).n4; show s.n + (if t.whole = true then 0 else t.n) + t.n ≤ 12; split <;> omega
theorem chk_src {c : Cf} (h : c.chk = true) : ∃ x, c.src = some x ∧ c.srd = x.n := by
  cases c with
  | add s v => exact ⟨s, rfl, rfl⟩
  | copy s t => exact ⟨s, rfl, rfl⟩
  | get s => exact nomatch h
  | set t v => exact nomatch h
  | exch s v => exact nomatch h
section
variable {K : PySem.W.Frag} {A : Ad} {H0 H : Hp} {S : List Addr} {L : List (Addr × Ent)} {I : List (V × PyData)} {Q : VK} {E : XK} {b g : Addr} {ds : List Int} {i : Int}
theorem Led.notinSet (h : Led K H0 S H L I) {p : Addr} (hp : H p = none) (n : Nat) {a : Addr} {e e' : Ent} (q : L[n]? = some (a, e)) : p ∉ (L.set n (a, e')).map (·.1) := fun m => by
  obtain ⟨y, hy, hy2⟩ := List.mem_map.mp m
  rcases List.mem_or_eq_of_mem_set hy with hy | hy
  · exact h.notin hp (List.mem_map.mpr ⟨y, hy, hy2⟩)
  · exact h.notin hp (List.mem_map.mpr ⟨(a, e), List.mem_of_getElem? q, by rw [← hy2, hy]⟩)
theorem h_swork (n : Nat) (h : Led K H0 S H L I) (e : L[n]? = some (b, .raw (.lst [.ref g, .int i]))) (e2 : L[n + 1]? = some (g, .raw (.lst (ds.map V.int)))) (h0 : 0 ≤ i) (h1 : i < 2 ^ 50) (hs : H0 b = none ∨ b ∈ S)
    (k : ∀ p H' j (c : Cf) sv tv, i ≤ j → j ≤ i + 100 → c.Ok → (H0 p = none ∨ p ∈ S) → Led K H0 S H' ((p, .raw (.lst [.str c.kind, sv, tv, oI c.val])) :: L.set n (b, .raw (.lst [.ref g, .int j]))) ((sv, oD c.src) :: (tv, oD c.tgt) :: I) → Q (.ref p) H') : sp__law_some_work K A [.ref b] H Q E :=
  ⟨b, g, ds, i, rfl, h.raw n e, h.raw (n + 1) e2, h.ne n (n + 1) e e2 (by omega), h0, h1, fun p H' j c sv tv j0 j1 ok np hl => k p H' j c sv tv j0 j1 ok (h.fr np)
    (Led.cons (((h.wr (e' := .raw (.lst [.ref g, .int j])) n e hl.kp (h.raw n e) rfl (hl.raw 1 rfl) hs).imNew (hl.im 1 _ _ rfl)).imNew (hl.im 0 _ _ rfl)) (hl.raw 0 rfl) (h.notinSet np n e))⟩
end
theorem shw_going : shw 0 600 (.str "going") := ⟨by simp [PyData.showable]; try decide +kernel, by simp [PyData.hasDict], by simp [PyData.depth], by simp [PyData.leavesShort]; try decide +kernel, by simp [PyData.weight]; try decide +kernel⟩
theorem shw_done : shw 0 600 (.str "done") := ⟨by simp [PyData.showable]; try decide +kernel, by simp [PyData.hasDict], by simp [PyData.depth], by simp [PyData.leavesShort]; try decide +kernel, by simp [PyData.weight]; try decide +kernel⟩
theorem shw_range : shw 0 600 (.str "range") := ⟨by simp [PyData.showable]; try decide +kernel, by simp [PyData.hasDict], by simp [PyData.depth], by simp [PyData.leavesShort]; try decide +kernel, by simp [PyData.weight]; try decide +kernel⟩
theorem shw_going1 : shw 1 601 (.tuple [.str "going"]) := shw_tup (n := 0) (W := 600) fun x hx => by cases List.mem_singleton.mp hx; exact shw_going
theorem h_isiT {K : PySem.W.Frag} {H : Hp} {Q : VK} {a : Addr} {ds : List PyData} (h : Im K H (.ref a) (.tuple ds)) (k : Q (.bl true) H) : rIsi K [.ref a, .ty "tuple"] H Q := by
  cases h with
  | tup hs _ =>
    refine ⟨.ref a, .ty "tuple", .type "tuple", .type "tuple", true, rfl, .ty "tuple", ?_, kit_ty (by decide +kernel), k⟩
    rcases hs with h | ⟨o, its, n, h1, h2, _⟩
    · rcases h with h | ⟨o, h⟩
      · exact .base (.tup h)
      · exact .fTuple h
    · exact .kTuple h1 h2

/-! ### the course of a work on bytes of its own -/
theorem putSeg_get {D s : List Int} {p : Nat} (h : p + s.length ≤ D.length) (j : Nat) : (putSeg D p s)[j]? = if j < p then D[j]? else if j < p + s.length then s[j - p]? else D[j]? := by
  unfold putSeg
  have e : (D.take p).length = p := by rw [List.length_take]; omega
  by_cases h1 : j < p
  · rw [if_pos h1, List.append_assoc, List.getElem?_append_left (by omega), List.getElem?_take_of_lt h1]
  · rw [if_neg h1]
    by_cases h2 : j < p + s.length
    · rw [if_pos h2, List.getElem?_append_left (by rw [List.length_append]; omega), List.getElem?_append_right (by omega), e]
    · rw [if_neg h2, List.getElem?_append_right (by rw [List.length_append]; omega), List.length_append, e, List.getElem?_drop, show p + s.length + (j - (p + s.length)) = j by omega]
theorem putSeg_nil {D : List Int} {p : Nat} : putSeg D p [] = D := by
  unfold putSeg
  rw [List.append_nil, List.length_nil, Nat.add_zero, List.take_append_drop]
theorem putSeg_snoc {D bs : List Int} {p i : Nat} (h : p + bs.length ≤ D.length) (hi : i < bs.length) : (putSeg D p (bs.take i)).set (p + i) (bs.getD i 0) = putSeg D p (bs.take (i + 1)) := by
  have l1 : (bs.take i).length = i := by rw [List.length_take]; omega
  have l2 : (bs.take (i + 1)).length = i + 1 := by rw [List.length_take]; omega
  refine List.ext_getElem? fun j => ?_
  rw [List.getElem?_set, putSeg_len (by rw [l1]; omega), putSeg_get (by rw [l1]; omega), putSeg_get (by rw [l2]; omega), l1, l2]
  by_cases e : p + i = j
  · subst e
    rw [if_pos rfl, if_pos (by omega), if_neg (by omega), if_pos (by omega), Nat.add_sub_cancel_left, List.getElem?_take_of_lt (by omega), List.getD_eq_getElem?_getD, List.getElem?_eq_getElem hi]
    rfl
  · rw [if_neg e]
    by_cases h1 : j < p
    · rw [if_pos h1, if_pos h1]
    · rw [if_neg h1, if_neg h1]
      by_cases h2 : j < p + i
      · rw [if_pos h2, if_pos (by omega), List.getElem?_take_of_lt (by omega), List.getElem?_take_of_lt (by omega)]
      · rw [if_neg h2, if_neg (by omega)]
theorem seg_snoc {D : List Int} {p m : Nat} (h : p + m < D.length) : seg D p m ++ [D.getD (p + m) 0] = seg D p (m + 1) := by
  unfold seg
  rw [show p + (m + 1) = (p + m) + 1 by omega, List.take_add_one, List.drop_append_of_le_length (by rw [List.length_take]; omega), List.getElem?_eq_getElem h, List.getD_eq_getElem?_getD, List.getElem?_eq_getElem h]
  rfl
theorem seg_zero {D : List Int} {p : Nat} : seg D p 0 = [] := by
  unfold seg
  exact List.drop_eq_nil_of_le (by rw [List.length_take]; omega)
theorem whole_wr {x : S5} {bs cs : List Int} {v : Int} (ok : x.Ok) (hw : x.whole = true) (h1 : Byt bs) (h2 : Byt cs) (l1 : bs.length = x.n) (l2 : cs.length = x.n) : wr5 x bs v = wr5 x cs v := by
  have hw : x.w = 8 * x.n := of_decide_eq_true hw
  have fw := ok.fw
  have hf : x.f = 0 := by omega
  have key : ∀ ds : List Int, Byt ds → ds.length = x.n → wr5 x ds v = ord x.big (dg 256 x.n (v % 2 ^ x.w)) := fun ds hb hl => by
    have r := wnum_rng (ds := ds) (o := 0) (n := x.n) (big := x.big) hb (by omega)
    have e : (256 : Int) ^ x.n = 2 ^ x.w := by
      rw [hw, Int.pow_mul]
      rfl
    unfold wr5 wslot put putSeg
    have e2 : nslot (wnum ds 0 x.n x.big) x.f x.w v = v % 2 ^ x.w := by
      unfold nslot
      rw [hf, Int.pow_zero, Int.ediv_one, Int.mul_one, Int.emod_eq_of_lt r.1 (by rw [← e]; exact r.2)]
      omega
    rw [e2, List.take_zero, List.nil_append, ord_len, dg_len, List.drop_eq_nil_of_le (by omega), List.append_nil]
  rw [key bs h1 l1, key cs h2 l2]
namespace Cf
def resAt (c : Cf) (D : List Int) (so : Option Nat) : Option Int := match c.src with | none => none | some x => some (c.resOf (rd5 x (seg D (so.getD 0) x.n)))
def bad (c : Cf) (D : List Int) (so : Option Nat) : Bool := c.chk && !decide (c.wri.inB ((c.resAt D so).getD 0))
def numAt (c : Cf) (D : List Int) (so : Option Nat) : Int := match c with | set _ v => v | exch _ v => v | _ => (c.resAt D so).getD 0
def mkAt (c : Cf) (D : List Int) (so to : Option Nat) : List Int := c.mk ⟨0, seg D (so.getD 0) c.srd, seg D (to.getD 0) c.trd, c.resAt D so, []⟩
structure Tr (c : Cf) (D0 : List Int) (so to : Option Nat) (m : Nat) (st : Ws) (D : List Int) : Prop where
  d : st.done = m
  le : m ≤ c.tot
  sb : st.sb = seg D0 (so.getD 0) (min m c.srd)
  tb : st.tb = seg D0 (to.getD 0) (min (m - c.srd) c.trd)
  res : c.srd ≤ m → st.res = c.resAt D0 so
  rng : 0 < c.srd → c.srd ≤ m → c.bad D0 so = false
  nw : c.rds < m → st.nw = c.mkAt D0 so to
  D : D = putSeg D0 (c.place so to) ((c.mkAt D0 so to).take (m - c.rds))
end Cf
theorem srd_is {c : Cf} {x : S5} (h : c.src = some x) : c.srd = x.n := by
  unfold Cf.srd
  rw [h]
theorem srd_none {c : Cf} (h : c.src = none) : c.srd = 0 := by
  unfold Cf.srd
  rw [h]
theorem trd_is {c : Cf} {x : S5} (h : c.tgt = some x) : c.trd = if x.whole = true then 0 else x.n := by
  unfold Cf.trd
  rw [h]
theorem trd_none {c : Cf} (h : c.tgt = none) : c.trd = 0 := by
  unfold Cf.trd
  rw [h]
theorem resAt_some {c : Cf} {x : S5} {D : List Int} {so : Option Nat} (h : c.src = some x) : c.resAt D so = some (c.resOf (rd5 x (seg D (so.getD 0) x.n))) := by
  unfold Cf.resAt
  rw [h]
theorem resAt_none {c : Cf} {D : List Int} {so : Option Nat} (h : c.src = none) : c.resAt D so = none := by
  unfold Cf.resAt
  rw [h]
theorem src_get {c : Cf} (h : 0 < c.srd) : ∃ x, c.src = some x := by
  cases hs : c.src with
  | none => rw [srd_none hs] at h; omega
  | some x => exact ⟨x, rfl⟩
theorem tgt_get {c : Cf} (h : 0 < c.trd) : ∃ x, c.tgt = some x := by
  cases hs : c.tgt with
  | none => rw [trd_none hs] at h; omega
  | some x => exact ⟨x, rfl⟩
theorem trd_le {c : Cf} {x : S5} (h : c.tgt = some x) : c.trd ≤ x.n := by
  rw [trd_is h]
  split <;> omega
theorem tr_start {c : Cf} {D0 : List Int} {so to : Option Nat} (ok : c.Ok) : c.Tr D0 so to 0 Ws.start D0 :=
  ⟨rfl, Nat.zero_le _, by rw [Nat.zero_min, seg_zero]; rfl, by rw [Nat.zero_sub, Nat.zero_min, seg_zero]; rfl, fun h => by
    cases hs : c.src with
    | none => rw [resAt_none hs]; rfl
    | some x =>
      rw [srd_is hs] at h
      have := (ok.s x hs).n0
      omega, fun h1 h2 => absurd h2 (by omega), fun h => absurd h (Nat.not_lt_zero _), by rw [Nat.zero_sub, List.take_zero, putSeg_nil]⟩
theorem mk_cong {c : Cf} {s t : Ws} (h1 : s.sb = t.sb) (h2 : s.tb = t.tb) (h3 : s.res = t.res) : c.mk s = c.mk t := by
  obtain ⟨d, a, b, r, n⟩ := s
  obtain ⟨d', a', b', r', n'⟩ := t
  cases h1
  cases h2
  cases h3
  cases c <;> rfl
theorem mkAt_len {c : Cf} {D : List Int} {so to : Option Nat} (ok : c.Ok) (fit : c.Fit D.length so to) (hg : c.isGet = false) : (c.mkAt D so to).length = c.wri.n := by
  refine mk_len (base_len ok hg ?_ ?_)
  · show (seg D (so.getD 0) c.srd).length = c.srd
    cases hs : c.src with
    | none => rw [srd_none hs, seg_zero]; rfl
    | some x =>
      obtain ⟨i, rfl, h⟩ := fit.s x hs
      rw [srd_is hs]
      exact seg_len h
  · show (seg D (to.getD 0) c.trd).length = c.trd
    cases hs : c.tgt with
    | none => rw [trd_none hs, seg_zero]; rfl
    | some x =>
      obtain ⟨i, rfl, h⟩ := fit.t x hs
      have := trd_le hs
      refine seg_len ?_
      show i + c.trd ≤ D.length
      omega
theorem bad_def {c : Cf} {x : S5} {D : List Int} {so : Option Nat} (h : c.src = some x) : c.bad D so = true ↔ (c.chk = true ∧ ¬ c.wri.inB (c.resOf (rd5 x (seg D (so.getD 0) x.n)))) := by
  unfold Cf.bad
  rw [resAt_some h, Bool.and_eq_true, Bool.not_eq_true', decide_eq_false_iff_not]
  exact Iff.rfl
/-- a step of a work on bytes of its own -/
theorem Cf.Tr.step {c : Cf} {D0 D : List Int} {so to : Option Nat} {m : Nat} {st : Ws} (h : c.Tr D0 so to m st D) (ok : c.Ok) (fit : c.Fit D0.length so to) (hm : m < c.tot) :
    (m + 1 = c.srd ∧ c.bad D0 so = true ∧ (c.step st D so to).2.1 = D0 ∧ (c.step st D so to).2.2 = .range) ∨
    ((c.step st D so to).2.2 = c.told (c.step st D so to).1 ∧ c.Tr D0 so to (m + 1) (c.step st D so to).1 (c.step st D so to).2.1) := by
  obtain ⟨hd, hle, hsb, htb, hres, hrng, hnw, hD⟩ := h
  have e1 : c.tot = c.srd + c.trd + c.wrs := rfl
  have e2 : c.rds = c.srd + c.trd := rfl
  have rd0 : m ≤ c.rds → D = D0 := fun q => by rw [hD, show m - c.rds = 0 by omega, List.take_zero, putSeg_nil]
  have put0 : ∀ k, k ≤ c.rds → D0 = putSeg D0 (c.place so to) ((c.mkAt D0 so to).take (k - c.rds)) := fun k q => by rw [show k - c.rds = 0 by omega, List.take_zero, putSeg_nil]
  unfold Cf.step
  rw [hd]
  by_cases h1 : m < c.srd
  · rw [if_pos h1]
    have hDD := rd0 (by omega)
    rw [hDD]
    obtain ⟨x, hx⟩ := src_get (c := c) (by omega)
    have hn := srd_is hx
    obtain ⟨i, rfl, fi⟩ := fit.s x hx
    have sb' : (c.stS st D0 (some i)).sb = seg D0 i (m + 1) := by
      show st.sb ++ [D0.getD (i + st.done) 0] = _
      rw [hsb, hd, Nat.min_eq_left (by omega)]
      exact seg_snoc (p := i) (by omega)
    by_cases h2 : m + 1 = c.srd
    · rw [if_pos h2]
      dsimp only
      have gx : c.src.getD c.wri = x := by rw [hx]; rfl
      rw [gx, sb', h2, hn]
      by_cases h3 : c.chk = true ∧ ¬ c.wri.inB (c.resOf (rd5 x (seg D0 i x.n)))
      · rw [if_pos h3]
        exact .inl ⟨rfl, (bad_def hx).mpr h3, rfl, rfl⟩
      · rw [if_neg h3]
        refine .inr ⟨rfl, ?_, by omega, ?_, ?_, fun _ => ?_, fun _ _ => ?_, fun q => by omega, put0 _ (by omega)⟩
        · show st.done + 1 = x.n
          omega
        · show (c.stS st D0 (some i)).sb = _
          rw [sb', h2, hn, Nat.min_self]
          rfl
        · show st.tb = _
          rw [htb, show min (m - c.srd) c.trd = 0 by omega, show min (x.n - c.srd) c.trd = 0 by omega]
        · show some (c.resOf (rd5 (c.src.getD c.wri) (c.stS st D0 (some i)).sb)) = _
          rw [gx, sb', h2, hn, resAt_some hx]
          rfl
        · cases hb : c.bad D0 (some i) with
          | false => rfl
          | true => exact absurd ((bad_def hx).mp hb) h3
    · rw [if_neg h2]
      refine .inr ⟨rfl, ?_, by omega, ?_, ?_, fun q => by omega, fun _ q => by omega, fun q => by omega, put0 _ (by omega)⟩
      · show st.done + 1 = m + 1
        omega
      · rw [sb', Nat.min_eq_left (by omega)]
        rfl
      · show st.tb = _
        rw [htb, show min (m - c.srd) c.trd = 0 by omega, show min (m + 1 - c.srd) c.trd = 0 by omega]
  · rw [if_neg h1]
    by_cases h2 : m < c.rds
    · rw [if_pos h2]
      have hDD := rd0 (by omega)
      rw [hDD]
      obtain ⟨x, hx⟩ := tgt_get (c := c) (by omega)
      have hn := trd_le hx
      obtain ⟨i, rfl, fi⟩ := fit.t x hx
      refine .inr ⟨rfl, ?_, by omega, ?_, ?_, fun q => hres (by omega), fun q1 q => hrng q1 (by omega), fun q => by omega, put0 _ (by omega)⟩
      · show st.done + 1 = m + 1
        omega
      · show st.sb = _
        rw [hsb, show min m c.srd = c.srd by omega, show min (m + 1) c.srd = c.srd by omega]
      · show st.tb ++ [D0.getD (i + (st.done - c.srd)) 0] = _
        rw [htb, hd, show min (m - c.srd) c.trd = m - c.srd by omega, show min (m + 1 - c.srd) c.trd = (m - c.srd) + 1 by omega]
        exact seg_snoc (p := i) (by omega)
    · rw [if_neg h2]
      have hg : 0 < c.wrs := by omega
      obtain ⟨g1, g2⟩ := wrs_get hg
      have ml := mkAt_len ok fit g1
      have hp := (place_is fit).2
      have hmk : c.mk st = c.mkAt D0 so to := by
        refine mk_cong ?_ ?_ (hres (by omega))
        · rw [hsb, show min m c.srd = c.srd by omega]
        · rw [htb, show min (m - c.srd) c.trd = c.trd by omega]
      have nw' : (c.stN st).nw = c.mkAt D0 so to := by
        unfold Cf.stN
        by_cases h3 : st.done = c.rds
        · rw [if_pos h3]
          exact hmk
        · rw [if_neg h3]
          exact hnw (by omega)
      have f1 : (c.stN st).done = m + 1 ∧ (c.stN st).sb = st.sb ∧ (c.stN st).tb = st.tb ∧ (c.stN st).res = st.res := by
        unfold Cf.stN
        split <;> exact ⟨by show st.done + 1 = m + 1; omega, rfl, rfl, rfl⟩
      obtain ⟨f1, f2, f3, f4⟩ := f1
      refine .inr ⟨rfl, f1, by omega, ?_, ?_, fun q => f4.trans (hres (by omega)), fun q1 q => hrng q1 (by omega), fun _ => nw', ?_⟩
      · rw [f2, hsb, show min m c.srd = c.srd by omega, show min (m + 1) c.srd = c.srd by omega]
      · rw [f3, htb, show min (m - c.srd) c.trd = c.trd by omega, show min (m + 1 - c.srd) c.trd = c.trd by omega]
      · show D.set (c.place so to + (st.done - c.rds)) ((c.stN st).nw.getD (st.done - c.rds) 0) = _
        rw [nw', hd, hD, show m + 1 - c.rds = (m - c.rds) + 1 by omega]
        exact putSeg_snoc (by rw [ml]; omega) (by rw [ml]; omega)
/-- the bytes that a work leaves -/
theorem mkAt_eq {c : Cf} {D : List Int} {so to : Option Nat} (ok : c.Ok) (fit : c.Fit D.length so to) (hb : Byt D) (hg : c.isGet = false) : c.mkAt D so to = wr5 c.wri (seg D (c.place so to) c.wri.n) (c.numAt D so) := by
  have ne : ∀ {p n : Nat}, 1 ≤ n → p + n ≤ D.length → (seg D p n).isEmpty = false := fun {p n} h1 h2 => by
    have q := seg_len h2
    cases hq : seg D p n with
    | nil => rw [hq] at q; simp at q; omega
    | cons a l => rfl
  cases c with
  | get s => exact nomatch hg
  | set t v =>
    obtain ⟨i, rfl, fi⟩ := fit.t t rfl
    have tok := ok.t t rfl
    show wr5 t (if (seg D i (if t.whole = true then 0 else t.n)).isEmpty = true then List.replicate t.n 0 else seg D i (if t.whole = true then 0 else t.n)) v = wr5 t (seg D i t.n) v
    by_cases hw : t.whole = true
    · rw [if_pos hw, seg_zero]
      exact whole_wr tok hw (fun b hb2 => by rw [List.eq_of_mem_replicate hb2]; omega) (seg_byt hb) List.length_replicate (seg_len fi)
    · rw [if_neg hw, ne tok.n0 fi]
      rfl
  | add s v =>
    obtain ⟨i, rfl, fi⟩ := fit.s s rfl
    show wr5 s (if (seg D i s.n).isEmpty = true then List.replicate s.n 0 else seg D i s.n) _ = wr5 s (seg D i s.n) _
    rw [ne (ok.s s rfl).n0 fi]
    rfl
  | exch s v =>
    obtain ⟨i, rfl, fi⟩ := fit.s s rfl
    show wr5 s (if (seg D i s.n).isEmpty = true then List.replicate s.n 0 else seg D i s.n) _ = wr5 s (seg D i s.n) _
    rw [ne (ok.s s rfl).n0 fi]
    rfl
  | copy s t =>
    obtain ⟨i, rfl, fi⟩ := fit.t t rfl
    have tok := ok.t t rfl
    show wr5 t (if (seg D i (if t.whole = true then 0 else t.n)).isEmpty = true then List.replicate t.n 0 else seg D i (if t.whole = true then 0 else t.n)) _ = wr5 t (seg D i t.n) _
    by_cases hw : t.whole = true
    · rw [if_pos hw, seg_zero]
      exact whole_wr tok hw (fun b hb2 => by rw [List.eq_of_mem_replicate hb2]; omega) (seg_byt hb) List.length_replicate (seg_len fi)
    · rw [if_neg hw, ne tok.n0 fi]
      rfl
/-- the bytes behind a whole work -/
def Cf.outD (c : Cf) (D : List Int) (so to : Option Nat) : List Int := if c.isGet = true then D else putSeg D (c.place so to) (wr5 c.wri (seg D (c.place so to) c.wri.n) (c.numAt D so))
theorem Cf.Tr.fin {c : Cf} {D0 D : List Int} {so to : Option Nat} {st : Ws} (h : c.Tr D0 so to c.tot st D) (ok : c.Ok) (fit : c.Fit D0.length so to) (hb : Byt D0) : D = c.outD D0 so to := by
  rw [h.D]
  have e1 : c.tot = c.rds + c.wrs := rfl
  unfold Cf.outD
  by_cases hg : c.isGet = true
  · rw [if_pos hg]
    have e : c.wrs = 0 := by cases c <;> first | rfl | exact nomatch hg
    rw [e1, e, Nat.add_zero, Nat.sub_self, List.take_zero, putSeg_nil]
  · rw [if_neg hg]
    have hg := Bool.not_eq_true _ ▸ hg
    have hw : c.wrs = c.wri.n := by cases c <;> first | rfl | exact nomatch hg
    rw [e1, Nat.add_sub_cancel_left, hw, List.take_of_length_le (by rw [mkAt_len ok fit hg]; omega), mkAt_eq ok fit hb hg]

/-! ### the laws' own words -/
theorem a_chain {r r' : R2} {ta tb tc : TE} {σ : L2.St} {H : Hp} {Q : VK} : tChain r r' ta tb tc σ H Q = ta σ H fun x H1 => tb σ H1 fun y H2 => r x y H2 fun z H3 => ∃ k, z = .bl k ∧ (if k = true then tc σ H3 fun w' H4 => r' y w' H4 Q else Q (.bl false) H3) := rfl
theorem h_exb {b : Bool} {P : Bool → Prop} (h : P b) : ∃ k, V.bl b = .bl k ∧ P k := ⟨b, rfl, h⟩
theorem seg_all {ds : List Int} {n : Nat} (h : ds.length = n) : seg ds 0 n = ds := by
  unfold seg
  rw [List.drop_zero, List.take_of_length_le (by omega)]
theorem wr5_eq {x : S5} {ds : List Int} {v : Int} (h : ds.length = x.n) : wr5 x ds v = ord x.big (dg 256 x.n (nslot (vn 256 (ord x.big ds)) x.f x.w v)) := by
  unfold wr5 wslot put putSeg wnum
  rw [seg_all h, List.take_zero, List.nil_append, ord_len, dg_len, List.drop_eq_nil_of_le (by omega), List.append_nil]
theorem rd5_eq {x : S5} {ds : List Int} (h : ds.length = x.n) : rd5 x ds = sgn x.w x.s (vn 256 (ord x.big ds) / 2 ^ x.f % 2 ^ x.w) := by
  unfold rd5 rslot wnum
  rw [seg_all h]
theorem wr5_len {x : S5} {ds : List Int} {v : Int} (h : ds.length = x.n) : (wr5 x ds v).length = x.n := by
  rw [wr5_eq h, ord_len, dg_len]
theorem wr5_byt {x : S5} {ds : List Int} {v : Int} (h : ds.length = x.n) : Byt (wr5 x ds v) := by
  rw [wr5_eq h]
  exact byt_ord (byt_dg _ _)
theorem rd5_rng {x : S5} {ds : List Int} (ok : x.Ok) : -(2 ^ 32) ≤ rd5 x ds ∧ rd5 x ds < 2 ^ 32 := by
  have hw : x.w ≤ 32 := by have := ok.fw; have := ok.n4; omega
  have p1 : (2 : Int) ^ x.w ≤ 2 ^ 32 := p2_le hw
  have p0 := p2_pos x.w
  unfold rd5 rslot sgn
  generalize wnum ds 0 x.n x.big / 2 ^ x.f = N
  have r1 := Int.emod_nonneg N (show (2 : Int) ^ x.w ≠ 0 by omega)
  have r2 := Int.emod_lt_of_pos N p0
  split <;> omega
theorem inB_rng {x : S5} {r : Int} (ok : x.Ok) (h : x.inB r) : -(2 ^ 32) ≤ r ∧ r < 2 ^ 32 := by
  have hw : x.w ≤ 32 := by have := ok.fw; have := ok.n4; omega
  have p1 : (2 : Int) ^ x.w ≤ 2 ^ 32 := p2_le hw
  have p2 : (2 : Int) ^ (x.w - 1) ≤ 2 ^ 32 := p2_le (by omega)
  obtain ⟨h1, h2⟩ := h
  unfold lo at h1
  unfold hi at h2
  cases hs : x.s with
  | true =>
    rw [hs, if_pos rfl] at h1 h2
    omega
  | false =>
    rw [hs, if_neg Bool.false_ne_true] at h1 h2
    omega
/-! ### their promises -/
def sp__law_number (K : PySem.W.Frag) (A : Ad) : Sp := fun vs H Q _ => ∃ (a : Addr) (ds : List Int) (big : Bool), vs = [.ref a, .bl big] ∧ SqL K H a (ds.map V.int) ∧ ∀ H', Same H H' → Q (.int (vn 256 (ord big ds))) H'
def sp__law_with (K : PySem.W.Frag) (A : Ad) : Sp := fun vs H Q _ => ∃ (a b : Addr) (ds : List Int) (x : S5) (v : Int), vs = [.ref a, .ref b, .int v] ∧ SqL K H a (ds.map V.int) ∧ Im K H (.ref b) (d5 x) ∧ x.Ok ∧ ds.length = x.n ∧ ∀ p H', Same H H' → H p = none → H' p = some (.lst ((wr5 x ds v).map V.int)) → Q (.ref p) H'
def sp__law_slot (K : PySem.W.Frag) (A : Ad) : Sp := fun vs H Q _ => ∃ (a b : Addr) (ds : List Int) (x : S5), vs = [.ref a, .ref b] ∧ SqL K H a (ds.map V.int) ∧ Im K H (.ref b) (d5 x) ∧ x.Ok ∧ ds.length = x.n ∧ ∀ H', Same H H' → Q (.int (rd5 x ds)) H'
section
variable {K : PySem.W.Frag} {A : Ad} {H0 H : Hp} {S : List Addr} {L : List (Addr × Ent)} {I : List (V × PyData)} {Q : VK} {E : XK} {a b : Addr} {ds : List Int} {x : S5} {big : Bool} {v : Int}
theorem h_number (n : Nat) (h : Led K H0 S H L I) (e : L[n]? = some (a, .raw (.lst (ds.map V.int)))) (k : ∀ H', Led K H0 S H' L I → Q (.int (vn 256 (ord big ds))) H') : sp__law_number K A [.ref a, .bl big] H Q E :=
  ⟨a, ds, big, rfl, h.sqL n e, fun H' s => k H' (h.same s)⟩
theorem h_with (n : Nat) (h : Led K H0 S H L I) (e : L[n]? = some (a, .raw (.lst (ds.map V.int)))) (hx : Im K H (.ref b) (d5 x)) (ok : x.Ok) (hl : ds.length = x.n) (k : ∀ p H', (H0 p = none ∨ p ∈ S) → Led K H0 S H' ((p, .raw (.lst ((wr5 x ds v).map V.int))) :: L) I → Q (.ref p) H') : sp__law_with K A [.ref a, .ref b, .int v] H Q E :=
  ⟨a, b, ds, x, v, rfl, h.sqL n e, hx, ok, hl, fun p H' s hp he => k p H' (h.fr hp) (h.new s hp he)⟩
theorem h_lslot (n : Nat) (h : Led K H0 S H L I) (e : L[n]? = some (a, .raw (.lst (ds.map V.int)))) (hx : Im K H (.ref b) (d5 x)) (ok : x.Ok) (hl : ds.length = x.n) (k : ∀ H', Led K H0 S H' L I → Q (.int (rd5 x ds)) H') : sp__law_slot K A [.ref a, .ref b] H Q E :=
  ⟨a, b, ds, x, rfl, h.sqL n e, hx, ok, hl, fun H' s => k H' (h.same s)⟩
end
section
variable {K : PySem.W.Frag} {H0 H : Hp} {S : List Addr} {L : List (Addr × Ent)} {I : List (V × PyData)} {Q : VK} {a : Addr} {xs : List V} {D : Ends} {σ : L2.St} {b : Bool}
theorem h_listOfQ (h : Led K H0 S H L I) (e : SqL K H a xs) (k : ∀ p H', (H0 p = none ∨ p ∈ S) → Led K H0 S H' ((p, .raw (.lst xs)) :: L) I → Q (.ref p) H') : hListOf K [.ref a] H Q :=
  ⟨a, xs, rfl, .inl e, fun p hp => k p _ (h.fr hp) (h.alloc hp)⟩
theorem h_brbN {t u : TS} (h1 : b = false → t D σ H) (h2 : b = true → u D σ H) : Br (!b) t u D σ H := by
  cases b
  · exact iteT (h1 rfl)
  · exact iteF (h2 rfl)
end

local macro_rules | `(tactic| walk_at "im") => `(tactic| (first | apply Im.int | apply Im.str | apply Im.bl | apply Im.non | assumption | (apply h_imm 0; (case h => assumption); (case e => with_unfolding_all rfl)) | (apply h_imm 1; (case h => assumption); (case e => with_unfolding_all rfl)) | (apply h_imm 2; (case h => assumption); (case e => with_unfolding_all rfl)) | (apply h_imm 3; (case h => assumption); (case e => with_unfolding_all rfl)) | (apply h_imm 4; (case h => assumption); (case e => with_unfolding_all rfl)) | (apply h_imm 5; (case h => assumption); (case e => with_unfolding_all rfl))))
local macro_rules | `(tactic| walk_at "ims") => `(tactic| repeat (first | apply Ims.nil | (apply Ims.cons; (focus (first | apply Im.int | apply Im.str | apply Im.bl | apply Im.non | assumption | (apply h_imm 0; (case h => assumption); (case e => with_unfolding_all rfl)) | (apply h_imm 1; (case h => assumption); (case e => with_unfolding_all rfl)) | (apply h_imm 2; (case h => assumption); (case e => with_unfolding_all rfl)) | (apply h_imm 3; (case h => assumption); (case e => with_unfolding_all rfl)) | (apply h_imm 4; (case h => assumption); (case e => with_unfolding_all rfl)) | (apply h_imm 5; (case h => assumption); (case e => with_unfolding_all rfl)))))))
local macro_rules | `(tactic| walk_at "sz") => `(tactic| (rw [sizeLine_eq]; ((try simp only [List.length_append, List.length_cons, List.length_nil, List.length_map, List.length_replicate, List.length_set, List.length_take, List.length_drop]) <;> omega)))
local macro_rules | `(tactic| walk_at "fr") => `(tactic| (first | assumption | (apply Or.inl; assumption) | (apply Or.inr; simp)))
local macro_rules | `(tactic| walk_at "ds") => `(tactic| dsimp only [a_lk0, a_lk1, a_lkS, a_V, a_vl, a_c, a_op, a_un, a_test, a_toB, a_tr, a_trB, a_trI, a_trN, a_and, a_or, a_not, a_andV, a_orV, a_notV, a_ifE, a_nil, a_cons, a_lst, a_tup, a_call, a_CB, a_BM, a_BM0, a_sl, a_part, a_partI, a_noPart, a_seq, a_next, a_brk, a_cont, a_asg, a_name, a_drop, a_ret, a_retN, a_if, a_aug, a_for, a_lc, a_jR1, a_jR2, a_jL, a_jT, a_rg1, a_rg2, a_gsub, a_yes, a_addI, a_addS, a_addR, a_iaddI, a_iaddS, a_sub, a_mulI, a_mulR, a_fdiv, a_mod, a_pow, a_shl, a_shr, a_lt, a_le, a_gt, a_ge, a_neg, a_EqI, a_EqS, a_EqB, a_EqNN, a_EqIN, a_EqNI, a_EqSN, a_EqNS, a_EqRR, a_EqRN, a_EqNR, a_NeI, a_NeS, a_NeB, a_NeNN, a_NeIN, a_NeNI, a_NeSN, a_NeNS, a_NeRR, a_NeRN, a_NeNR, a_isNN, a_isNI, a_isNS, a_isNB, a_isNR, a_notNN, a_notNI, a_notNS, a_notNB, a_notNR, a_intI, a_intB, a_abs, a_gnil, a_gcons, a_callS, a_raise0, a_tryAs, a_tryOnly, a_rev, a_jR3, a_fld, a_sfld, a_meth, a_methE, a_make, a_sfldaug, a_chain, wipe, List.set, List.nil_append, List.cons_append])
local macro_rules | `(tactic| walk_at "gs") => `(tactic| repeat (first | dsimp only [a_lk0, a_lk1, a_lkS, a_V, a_vl, a_c, a_op, a_un, a_test, a_toB, a_tr, a_trB, a_trI, a_trN, a_and, a_or, a_not, a_andV, a_orV, a_notV, a_ifE, a_nil, a_cons, a_lst, a_tup, a_call, a_CB, a_BM, a_BM0, a_sl, a_part, a_partI, a_noPart, a_seq, a_next, a_brk, a_cont, a_asg, a_name, a_drop, a_ret, a_retN, a_if, a_aug, a_for, a_lc, a_jR1, a_jR2, a_jL, a_jT, a_rg1, a_rg2, a_gsub, a_yes, a_addI, a_addS, a_addR, a_iaddI, a_iaddS, a_sub, a_mulI, a_mulR, a_fdiv, a_mod, a_pow, a_shl, a_shr, a_lt, a_le, a_gt, a_ge, a_neg, a_EqI, a_EqS, a_EqB, a_EqNN, a_EqIN, a_EqNI, a_EqSN, a_EqNS, a_EqRR, a_EqRN, a_EqNR, a_NeI, a_NeS, a_NeB, a_NeNN, a_NeIN, a_NeNI, a_NeSN, a_NeNS, a_NeRR, a_NeRN, a_NeNR, a_isNN, a_isNI, a_isNS, a_isNB, a_isNR, a_notNN, a_notNI, a_notNS, a_notNB, a_notNR, a_intI, a_intB, a_abs, a_gnil, a_gcons, a_callS, a_raise0, a_tryAs, a_tryOnly, a_rev, a_jR3, a_fld, a_sfld, a_meth, a_methE, a_make, a_sfldaug, a_chain, wipe, List.set, List.nil_append, List.cons_append] | with_reducible (first
  | (apply h_draw 0; (case h => assumption); (case e => with_unfolding_all rfl); (case e2 => with_unfolding_all rfl); (case h0 => (first | decide | omega | (simp only [List.length_map, List.length_append, List.length_take, List.length_drop, List.length_set]; omega))); (case h1 => (first | decide | omega | (simp only [List.length_map, List.length_append, List.length_take, List.length_drop, List.length_set]; omega))); (case h2 => (first | decide | omega | (simp only [List.length_map, List.length_append, List.length_take, List.length_drop, List.length_set]; omega))); (case hs => (first | assumption | (apply Or.inl; assumption) | (apply Or.inr; simp))))
  | (apply h_draw 1; (case h => assumption); (case e => with_unfolding_all rfl); (case e2 => with_unfolding_all rfl); (case h0 => (first | decide | omega | (simp only [List.length_map, List.length_append, List.length_take, List.length_drop, List.length_set]; omega))); (case h1 => (first | decide | omega | (simp only [List.length_map, List.length_append, List.length_take, List.length_drop, List.length_set]; omega))); (case h2 => (first | decide | omega | (simp only [List.length_map, List.length_append, List.length_take, List.length_drop, List.length_set]; omega))); (case hs => (first | assumption | (apply Or.inl; assumption) | (apply Or.inr; simp))))
  | (apply h_draw 2; (case h => assumption); (case e => with_unfolding_all rfl); (case e2 => with_unfolding_all rfl); (case h0 => (first | decide | omega | (simp only [List.length_map, List.length_append, List.length_take, List.length_drop, List.length_set]; omega))); (case h1 => (first | decide | omega | (simp only [List.length_map, List.length_append, List.length_take, List.length_drop, List.length_set]; omega))); (case h2 => (first | decide | omega | (simp only [List.length_map, List.length_append, List.length_take, List.length_drop, List.length_set]; omega))); (case hs => (first | assumption | (apply Or.inl; assumption) | (apply Or.inr; simp))))
  | (apply h_draw 3; (case h => assumption); (case e => with_unfolding_all rfl); (case e2 => with_unfolding_all rfl); (case h0 => (first | decide | omega | (simp only [List.length_map, List.length_append, List.length_take, List.length_drop, List.length_set]; omega))); (case h1 => (first | decide | omega | (simp only [List.length_map, List.length_append, List.length_take, List.length_drop, List.length_set]; omega))); (case h2 => (first | decide | omega | (simp only [List.length_map, List.length_append, List.length_take, List.length_drop, List.length_set]; omega))); (case hs => (first | assumption | (apply Or.inl; assumption) | (apply Or.inr; simp))))
  | (apply h_ixL 0; (case h => assumption); (case e => with_unfolding_all rfl); (case hx => with_unfolding_all rfl))
  | (apply h_ixL 1; (case h => assumption); (case e => with_unfolding_all rfl); (case hx => with_unfolding_all rfl))
  | (apply h_ixL 2; (case h => assumption); (case e => with_unfolding_all rfl); (case hx => with_unfolding_all rfl))
  | (apply h_ixL 3; (case h => assumption); (case e => with_unfolding_all rfl); (case hx => with_unfolding_all rfl))
  | (apply h_ixL 4; (case h => assumption); (case e => with_unfolding_all rfl); (case hx => with_unfolding_all rfl))
  | (apply h_ixTv; (case hd => (first | apply Im.int | apply Im.str | apply Im.bl | apply Im.non | assumption | (apply h_imm 0; (case h => assumption); (case e => with_unfolding_all rfl)) | (apply h_imm 1; (case h => assumption); (case e => with_unfolding_all rfl)) | (apply h_imm 2; (case h => assumption); (case e => with_unfolding_all rfl)) | (apply h_imm 3; (case h => assumption); (case e => with_unfolding_all rfl)) | (apply h_imm 4; (case h => assumption); (case e => with_unfolding_all rfl)) | (apply h_imm 5; (case h => assumption); (case e => with_unfolding_all rfl)))); (case h0 => (first | decide | omega | (simp only [List.length_map, List.length_append, List.length_take, List.length_drop, List.length_set]; omega))); (case hx => with_unfolding_all rfl); (case hv => with_unfolding_all rfl))
  | (apply h_slPre; (case h => assumption); (case hd => (first | apply Im.int | apply Im.str | apply Im.bl | apply Im.non | assumption | (apply h_imm 0; (case h => assumption); (case e => with_unfolding_all rfl)) | (apply h_imm 1; (case h => assumption); (case e => with_unfolding_all rfl)) | (apply h_imm 2; (case h => assumption); (case e => with_unfolding_all rfl)) | (apply h_imm 3; (case h => assumption); (case e => with_unfolding_all rfl)) | (apply h_imm 4; (case h => assumption); (case e => with_unfolding_all rfl)) | (apply h_imm 5; (case h => assumption); (case e => with_unfolding_all rfl)))); (case h0 => (first | decide | omega | (simp only [List.length_map, List.length_append, List.length_take, List.length_drop, List.length_set]; omega))))
  | (apply h_gtupV; (case h => (first | apply Im.int | apply Im.str | apply Im.bl | apply Im.non | assumption | (apply h_imm 0; (case h => assumption); (case e => with_unfolding_all rfl)) | (apply h_imm 1; (case h => assumption); (case e => with_unfolding_all rfl)) | (apply h_imm 2; (case h => assumption); (case e => with_unfolding_all rfl)) | (apply h_imm 3; (case h => assumption); (case e => with_unfolding_all rfl)) | (apply h_imm 4; (case h => assumption); (case e => with_unfolding_all rfl)) | (apply h_imm 5; (case h => assumption); (case e => with_unfolding_all rfl)))); (case hn => with_unfolding_all rfl); (case hv => with_unfolding_all rfl))
  | (apply h_isiB)
  | (apply h_exb)
  | (apply h_eqr)
  | (apply iteT)
  | (apply h_nT)
  | (apply h_nF)
  | (apply iteF)
  | (apply h_brT)
  | (apply h_brF)
  | (apply h_brET)
  | (apply h_brEF)
  | (apply h_brNT)
  | (apply h_brNF)
  | (apply h_append 0; (case h => assumption); (case e => with_unfolding_all rfl); (case hs => (first | assumption | (apply Or.inl; assumption) | (apply Or.inr; simp))); (case z => (rw [sizeLine_eq]; ((try simp only [List.length_append, List.length_cons, List.length_nil, List.length_map, List.length_replicate, List.length_set, List.length_take, List.length_drop]) <;> omega))))
  | (apply h_append 1; (case h => assumption); (case e => with_unfolding_all rfl); (case hs => (first | assumption | (apply Or.inl; assumption) | (apply Or.inr; simp))); (case z => (rw [sizeLine_eq]; ((try simp only [List.length_append, List.length_cons, List.length_nil, List.length_map, List.length_replicate, List.length_set, List.length_take, List.length_drop]) <;> omega))))
  | (apply h_append 2; (case h => assumption); (case e => with_unfolding_all rfl); (case hs => (first | assumption | (apply Or.inl; assumption) | (apply Or.inr; simp))); (case z => (rw [sizeLine_eq]; ((try simp only [List.length_append, List.length_cons, List.length_nil, List.length_map, List.length_replicate, List.length_set, List.length_take, List.length_drop]) <;> omega))))
  | (apply h_append 3; (case h => assumption); (case e => with_unfolding_all rfl); (case hs => (first | assumption | (apply Or.inl; assumption) | (apply Or.inr; simp))); (case z => (rw [sizeLine_eq]; ((try simp only [List.length_append, List.length_cons, List.length_nil, List.length_map, List.length_replicate, List.length_set, List.length_take, List.length_drop]) <;> omega))))
  | (apply h_append 4; (case h => assumption); (case e => with_unfolding_all rfl); (case hs => (first | assumption | (apply Or.inl; assumption) | (apply Or.inr; simp))); (case z => (rw [sizeLine_eq]; ((try simp only [List.length_append, List.length_cons, List.length_nil, List.length_map, List.length_replicate, List.length_set, List.length_take, List.length_drop]) <;> omega))))
  | (apply h_appendD 0; (case h => assumption); (case e => with_unfolding_all rfl); (case hd => (first | apply Im.int | apply Im.str | apply Im.bl | apply Im.non | assumption | (apply h_imm 0; (case h => assumption); (case e => with_unfolding_all rfl)) | (apply h_imm 1; (case h => assumption); (case e => with_unfolding_all rfl)) | (apply h_imm 2; (case h => assumption); (case e => with_unfolding_all rfl)) | (apply h_imm 3; (case h => assumption); (case e => with_unfolding_all rfl)) | (apply h_imm 4; (case h => assumption); (case e => with_unfolding_all rfl)) | (apply h_imm 5; (case h => assumption); (case e => with_unfolding_all rfl)))); (case hs => (first | assumption | (apply Or.inl; assumption) | (apply Or.inr; simp))); (case z => (rw [sizeLine_eq]; ((try simp only [List.length_append, List.length_cons, List.length_nil, List.length_map, List.length_replicate, List.length_set, List.length_take, List.length_drop]) <;> omega))))
  | (apply h_appendD 1; (case h => assumption); (case e => with_unfolding_all rfl); (case hd => (first | apply Im.int | apply Im.str | apply Im.bl | apply Im.non | assumption | (apply h_imm 0; (case h => assumption); (case e => with_unfolding_all rfl)) | (apply h_imm 1; (case h => assumption); (case e => with_unfolding_all rfl)) | (apply h_imm 2; (case h => assumption); (case e => with_unfolding_all rfl)) | (apply h_imm 3; (case h => assumption); (case e => with_unfolding_all rfl)) | (apply h_imm 4; (case h => assumption); (case e => with_unfolding_all rfl)) | (apply h_imm 5; (case h => assumption); (case e => with_unfolding_all rfl)))); (case hs => (first | assumption | (apply Or.inl; assumption) | (apply Or.inr; simp))); (case z => (rw [sizeLine_eq]; ((try simp only [List.length_append, List.length_cons, List.length_nil, List.length_map, List.length_replicate, List.length_set, List.length_take, List.length_drop]) <;> omega))))
  | (apply h_appendD 2; (case h => assumption); (case e => with_unfolding_all rfl); (case hd => (first | apply Im.int | apply Im.str | apply Im.bl | apply Im.non | assumption | (apply h_imm 0; (case h => assumption); (case e => with_unfolding_all rfl)) | (apply h_imm 1; (case h => assumption); (case e => with_unfolding_all rfl)) | (apply h_imm 2; (case h => assumption); (case e => with_unfolding_all rfl)) | (apply h_imm 3; (case h => assumption); (case e => with_unfolding_all rfl)) | (apply h_imm 4; (case h => assumption); (case e => with_unfolding_all rfl)) | (apply h_imm 5; (case h => assumption); (case e => with_unfolding_all rfl)))); (case hs => (first | assumption | (apply Or.inl; assumption) | (apply Or.inr; simp))); (case z => (rw [sizeLine_eq]; ((try simp only [List.length_append, List.length_cons, List.length_nil, List.length_map, List.length_replicate, List.length_set, List.length_take, List.length_drop]) <;> omega))))
  | (apply h_appendD 3; (case h => assumption); (case e => with_unfolding_all rfl); (case hd => (first | apply Im.int | apply Im.str | apply Im.bl | apply Im.non | assumption | (apply h_imm 0; (case h => assumption); (case e => with_unfolding_all rfl)) | (apply h_imm 1; (case h => assumption); (case e => with_unfolding_all rfl)) | (apply h_imm 2; (case h => assumption); (case e => with_unfolding_all rfl)) | (apply h_imm 3; (case h => assumption); (case e => with_unfolding_all rfl)) | (apply h_imm 4; (case h => assumption); (case e => with_unfolding_all rfl)) | (apply h_imm 5; (case h => assumption); (case e => with_unfolding_all rfl)))); (case hs => (first | assumption | (apply Or.inl; assumption) | (apply Or.inr; simp))); (case z => (rw [sizeLine_eq]; ((try simp only [List.length_append, List.length_cons, List.length_nil, List.length_map, List.length_replicate, List.length_set, List.length_take, List.length_drop]) <;> omega))))
  | (apply h_appendD 4; (case h => assumption); (case e => with_unfolding_all rfl); (case hd => (first | apply Im.int | apply Im.str | apply Im.bl | apply Im.non | assumption | (apply h_imm 0; (case h => assumption); (case e => with_unfolding_all rfl)) | (apply h_imm 1; (case h => assumption); (case e => with_unfolding_all rfl)) | (apply h_imm 2; (case h => assumption); (case e => with_unfolding_all rfl)) | (apply h_imm 3; (case h => assumption); (case e => with_unfolding_all rfl)) | (apply h_imm 4; (case h => assumption); (case e => with_unfolding_all rfl)) | (apply h_imm 5; (case h => assumption); (case e => with_unfolding_all rfl)))); (case hs => (first | assumption | (apply Or.inl; assumption) | (apply Or.inr; simp))); (case z => (rw [sizeLine_eq]; ((try simp only [List.length_append, List.length_cons, List.length_nil, List.length_map, List.length_replicate, List.length_set, List.length_take, List.length_drop]) <;> omega))))
  | (apply h_tyL 0; (case h => assumption); (case e => with_unfolding_all rfl))
  | (apply h_tyL 1; (case h => assumption); (case e => with_unfolding_all rfl))
  | (apply h_tyL 2; (case h => assumption); (case e => with_unfolding_all rfl))
  | (apply h_tyL 3; (case h => assumption); (case e => with_unfolding_all rfl))
  | (apply h_tyL 4; (case h => assumption); (case e => with_unfolding_all rfl))
  | (apply h_tyD 0; (case h => assumption); (case e => with_unfolding_all rfl))
  | (apply h_tyD 1; (case h => assumption); (case e => with_unfolding_all rfl))
  | (apply h_tyD 2; (case h => assumption); (case e => with_unfolding_all rfl))
  | (apply h_tyD 3; (case h => assumption); (case e => with_unfolding_all rfl))
  | (apply h_tyD 4; (case h => assumption); (case e => with_unfolding_all rfl))
  | (apply h_tyS)
  | (apply h_lenL 0; (case h => assumption); (case e => with_unfolding_all rfl))
  | (apply h_lenL 1; (case h => assumption); (case e => with_unfolding_all rfl))
  | (apply h_lenL 2; (case h => assumption); (case e => with_unfolding_all rfl))
  | (apply h_lenL 3; (case h => assumption); (case e => with_unfolding_all rfl))
  | (apply h_lenL 4; (case h => assumption); (case e => with_unfolding_all rfl))
  | (apply h_lenD 0; (case h => assumption); (case e => with_unfolding_all rfl))
  | (apply h_lenD 1; (case h => assumption); (case e => with_unfolding_all rfl))
  | (apply h_lenD 2; (case h => assumption); (case e => with_unfolding_all rfl))
  | (apply h_lenD 3; (case h => assumption); (case e => with_unfolding_all rfl))
  | (apply h_lenD 4; (case h => assumption); (case e => with_unfolding_all rfl))
  | (apply h_setL 0; (case h => assumption); (case e => with_unfolding_all rfl); (case hs => (first | assumption | (apply Or.inl; assumption) | (apply Or.inr; simp))); (case hi => with_unfolding_all rfl))
  | (apply h_setL 1; (case h => assumption); (case e => with_unfolding_all rfl); (case hs => (first | assumption | (apply Or.inl; assumption) | (apply Or.inr; simp))); (case hi => with_unfolding_all rfl))
  | (apply h_setL 2; (case h => assumption); (case e => with_unfolding_all rfl); (case hs => (first | assumption | (apply Or.inl; assumption) | (apply Or.inr; simp))); (case hi => with_unfolding_all rfl))
  | (apply h_setL 3; (case h => assumption); (case e => with_unfolding_all rfl); (case hs => (first | assumption | (apply Or.inl; assumption) | (apply Or.inr; simp))); (case hi => with_unfolding_all rfl))
  | (apply h_setL 4; (case h => assumption); (case e => with_unfolding_all rfl); (case hs => (first | assumption | (apply Or.inl; assumption) | (apply Or.inr; simp))); (case hi => with_unfolding_all rfl))
  | (apply h_isLn 0; (case h => assumption); (case e => with_unfolding_all rfl))
  | (apply h_isLn 1; (case h => assumption); (case e => with_unfolding_all rfl))
  | (apply h_isLn 2; (case h => assumption); (case e => with_unfolding_all rfl))
  | (apply h_isLn 3; (case h => assumption); (case e => with_unfolding_all rfl))
  | (apply h_isLn 4; (case h => assumption); (case e => with_unfolding_all rfl))
  | (apply h_isLd 0; (case h => assumption); (case e => with_unfolding_all rfl))
  | (apply h_isLd 1; (case h => assumption); (case e => with_unfolding_all rfl))
  | (apply h_isLd 2; (case h => assumption); (case e => with_unfolding_all rfl))
  | (apply h_isLd 3; (case h => assumption); (case e => with_unfolding_all rfl))
  | (apply h_isLd 4; (case h => assumption); (case e => with_unfolding_all rfl))
  | (apply h_isT; (case h => (first | apply Im.int | apply Im.str | apply Im.bl | apply Im.non | assumption | (apply h_imm 0; (case h => assumption); (case e => with_unfolding_all rfl)) | (apply h_imm 1; (case h => assumption); (case e => with_unfolding_all rfl)) | (apply h_imm 2; (case h => assumption); (case e => with_unfolding_all rfl)) | (apply h_imm 3; (case h => assumption); (case e => with_unfolding_all rfl)) | (apply h_imm 4; (case h => assumption); (case e => with_unfolding_all rfl)) | (apply h_imm 5; (case h => assumption); (case e => with_unfolding_all rfl)))))
  | (apply h_tupOf 0; (case h => assumption); (case e => with_unfolding_all rfl))
  | (apply h_tupOf 1; (case h => assumption); (case e => with_unfolding_all rfl))
  | (apply h_tupOf 2; (case h => assumption); (case e => with_unfolding_all rfl))
  | (apply h_tupOf 3; (case h => assumption); (case e => with_unfolding_all rfl))
  | (apply h_tupOf 4; (case h => assumption); (case e => with_unfolding_all rfl))
  | (apply h_listOf 0; (case h => assumption); (case e => with_unfolding_all rfl))
  | (apply h_listOf 1; (case h => assumption); (case e => with_unfolding_all rfl))
  | (apply h_listOf 2; (case h => assumption); (case e => with_unfolding_all rfl))
  | (apply h_listOf 3; (case h => assumption); (case e => with_unfolding_all rfl))
  | (apply h_listOf 4; (case h => assumption); (case e => with_unfolding_all rfl))
  | (apply h_lst; (case h => assumption); (case z => (rw [sizeLine_eq]; ((try simp only [List.length_append, List.length_cons, List.length_nil, List.length_map, List.length_replicate, List.length_set, List.length_take, List.length_drop]) <;> omega))))
  | (apply h_tup; (case h => assumption); (case z => (rw [sizeLine_eq]; ((try simp only [List.length_append, List.length_cons, List.length_nil, List.length_map, List.length_replicate, List.length_set, List.length_take, List.length_drop]) <;> omega))); (case hd => repeat (first | apply Ims.nil | (apply Ims.cons; (focus (first | apply Im.int | apply Im.str | apply Im.bl | apply Im.non | assumption | (apply h_imm 0; (case h => assumption); (case e => with_unfolding_all rfl)) | (apply h_imm 1; (case h => assumption); (case e => with_unfolding_all rfl)) | (apply h_imm 2; (case h => assumption); (case e => with_unfolding_all rfl)) | (apply h_imm 3; (case h => assumption); (case e => with_unfolding_all rfl)) | (apply h_imm 4; (case h => assumption); (case e => with_unfolding_all rfl)) | (apply h_imm 5; (case h => assumption); (case e => with_unfolding_all rfl))))))))
  | (apply And.intro; (case left => (first | decide | omega | (simp only [List.length_map, List.length_append, List.length_take, List.length_drop, List.length_set]; omega))))
  | (apply h_mr; (case h1 => (first | decide | omega | (simp only [List.length_map, List.length_append, List.length_take, List.length_drop, List.length_set]; omega))); (case h2 => (first | decide | omega | (simp only [List.length_map, List.length_append, List.length_take, List.length_drop, List.length_set]; omega))))
  | (apply h_ml; (case h1 => (first | decide | omega | (simp only [List.length_map, List.length_append, List.length_take, List.length_drop, List.length_set]; omega))); (case h2 => (first | decide | omega | (simp only [List.length_map, List.length_append, List.length_take, List.length_drop, List.length_set]; omega))))
  | (apply h_dv; (case h1 => (first | decide | omega | (simp only [List.length_map, List.length_append, List.length_take, List.length_drop, List.length_set]; omega))); (case h2 => (first | decide | omega | (simp only [List.length_map, List.length_append, List.length_take, List.length_drop, List.length_set]; omega))))
  | (apply h_pw; (case h1 => (first | decide | omega | (simp only [List.length_map, List.length_append, List.length_take, List.length_drop, List.length_set]; omega))); (case h2 => (first | decide | omega | (simp only [List.length_map, List.length_append, List.length_take, List.length_drop, List.length_set]; omega))); (case h3 => decide))
  | (apply And.intro; (case left => (rw [sizeLine_eq]; ((try simp only [List.length_append, List.length_cons, List.length_nil, List.length_map, List.length_replicate, List.length_set, List.length_take, List.length_drop]) <;> omega))))
  | (apply h_wnum 0; (case h => assumption); (case e => with_unfolding_all rfl); (case h0 => (first | decide | omega | (simp only [List.length_map, List.length_append, List.length_take, List.length_drop, List.length_set]; omega))); (case h1 => (first | decide | omega | (simp only [List.length_map, List.length_append, List.length_take, List.length_drop, List.length_set]; omega))); (case h2 => (first | decide | omega | (simp only [List.length_map, List.length_append, List.length_take, List.length_drop, List.length_set]; omega))); (case h3 => (first | decide | omega | (simp only [List.length_map, List.length_append, List.length_take, List.length_drop, List.length_set]; omega))))
  | (apply h_wnum 1; (case h => assumption); (case e => with_unfolding_all rfl); (case h0 => (first | decide | omega | (simp only [List.length_map, List.length_append, List.length_take, List.length_drop, List.length_set]; omega))); (case h1 => (first | decide | omega | (simp only [List.length_map, List.length_append, List.length_take, List.length_drop, List.length_set]; omega))); (case h2 => (first | decide | omega | (simp only [List.length_map, List.length_append, List.length_take, List.length_drop, List.length_set]; omega))); (case h3 => (first | decide | omega | (simp only [List.length_map, List.length_append, List.length_take, List.length_drop, List.length_set]; omega))))
  | (apply h_wnum 2; (case h => assumption); (case e => with_unfolding_all rfl); (case h0 => (first | decide | omega | (simp only [List.length_map, List.length_append, List.length_take, List.length_drop, List.length_set]; omega))); (case h1 => (first | decide | omega | (simp only [List.length_map, List.length_append, List.length_take, List.length_drop, List.length_set]; omega))); (case h2 => (first | decide | omega | (simp only [List.length_map, List.length_append, List.length_take, List.length_drop, List.length_set]; omega))); (case h3 => (first | decide | omega | (simp only [List.length_map, List.length_append, List.length_take, List.length_drop, List.length_set]; omega))))
  | (apply h_rdword 0; (case h => assumption); (case e => with_unfolding_all rfl); (case h0 => (first | decide | omega | (simp only [List.length_map, List.length_append, List.length_take, List.length_drop, List.length_set]; omega))); (case h1 => (first | decide | omega | (simp only [List.length_map, List.length_append, List.length_take, List.length_drop, List.length_set]; omega))); (case h2 => (first | decide | omega | (simp only [List.length_map, List.length_append, List.length_take, List.length_drop, List.length_set]; omega))); (case h3 => (first | decide | omega | (simp only [List.length_map, List.length_append, List.length_take, List.length_drop, List.length_set]; omega))))
  | (apply h_rdword 1; (case h => assumption); (case e => with_unfolding_all rfl); (case h0 => (first | decide | omega | (simp only [List.length_map, List.length_append, List.length_take, List.length_drop, List.length_set]; omega))); (case h1 => (first | decide | omega | (simp only [List.length_map, List.length_append, List.length_take, List.length_drop, List.length_set]; omega))); (case h2 => (first | decide | omega | (simp only [List.length_map, List.length_append, List.length_take, List.length_drop, List.length_set]; omega))); (case h3 => (first | decide | omega | (simp only [List.length_map, List.length_append, List.length_take, List.length_drop, List.length_set]; omega))))
  | (apply h_rdword 2; (case h => assumption); (case e => with_unfolding_all rfl); (case h0 => (first | decide | omega | (simp only [List.length_map, List.length_append, List.length_take, List.length_drop, List.length_set]; omega))); (case h1 => (first | decide | omega | (simp only [List.length_map, List.length_append, List.length_take, List.length_drop, List.length_set]; omega))); (case h2 => (first | decide | omega | (simp only [List.length_map, List.length_append, List.length_take, List.length_drop, List.length_set]; omega))); (case h3 => (first | decide | omega | (simp only [List.length_map, List.length_append, List.length_take, List.length_drop, List.length_set]; omega))))
  | (apply h_rslot 0; (case h => assumption); (case e => with_unfolding_all rfl); (case h0 => (first | decide | omega | (simp only [List.length_map, List.length_append, List.length_take, List.length_drop, List.length_set]; omega))); (case h1 => (first | decide | omega | (simp only [List.length_map, List.length_append, List.length_take, List.length_drop, List.length_set]; omega))); (case h2 => (first | decide | omega | (simp only [List.length_map, List.length_append, List.length_take, List.length_drop, List.length_set]; omega))); (case h3 => (first | decide | omega | (simp only [List.length_map, List.length_append, List.length_take, List.length_drop, List.length_set]; omega))); (case h4 => (first | decide | omega | (simp only [List.length_map, List.length_append, List.length_take, List.length_drop, List.length_set]; omega))); (case h5 => (first | decide | omega | (simp only [List.length_map, List.length_append, List.length_take, List.length_drop, List.length_set]; omega))); (case h6 => (first | decide | omega | (simp only [List.length_map, List.length_append, List.length_take, List.length_drop, List.length_set]; omega))); (case h7 => (first | decide | omega | (simp only [List.length_map, List.length_append, List.length_take, List.length_drop, List.length_set]; omega))))
  | (apply h_rslot 1; (case h => assumption); (case e => with_unfolding_all rfl); (case h0 => (first | decide | omega | (simp only [List.length_map, List.length_append, List.length_take, List.length_drop, List.length_set]; omega))); (case h1 => (first | decide | omega | (simp only [List.length_map, List.length_append, List.length_take, List.length_drop, List.length_set]; omega))); (case h2 => (first | decide | omega | (simp only [List.length_map, List.length_append, List.length_take, List.length_drop, List.length_set]; omega))); (case h3 => (first | decide | omega | (simp only [List.length_map, List.length_append, List.length_take, List.length_drop, List.length_set]; omega))); (case h4 => (first | decide | omega | (simp only [List.length_map, List.length_append, List.length_take, List.length_drop, List.length_set]; omega))); (case h5 => (first | decide | omega | (simp only [List.length_map, List.length_append, List.length_take, List.length_drop, List.length_set]; omega))); (case h6 => (first | decide | omega | (simp only [List.length_map, List.length_append, List.length_take, List.length_drop, List.length_set]; omega))); (case h7 => (first | decide | omega | (simp only [List.length_map, List.length_append, List.length_take, List.length_drop, List.length_set]; omega))))
  | (apply h_rslot 2; (case h => assumption); (case e => with_unfolding_all rfl); (case h0 => (first | decide | omega | (simp only [List.length_map, List.length_append, List.length_take, List.length_drop, List.length_set]; omega))); (case h1 => (first | decide | omega | (simp only [List.length_map, List.length_append, List.length_take, List.length_drop, List.length_set]; omega))); (case h2 => (first | decide | omega | (simp only [List.length_map, List.length_append, List.length_take, List.length_drop, List.length_set]; omega))); (case h3 => (first | decide | omega | (simp only [List.length_map, List.length_append, List.length_take, List.length_drop, List.length_set]; omega))); (case h4 => (first | decide | omega | (simp only [List.length_map, List.length_append, List.length_take, List.length_drop, List.length_set]; omega))); (case h5 => (first | decide | omega | (simp only [List.length_map, List.length_append, List.length_take, List.length_drop, List.length_set]; omega))); (case h6 => (first | decide | omega | (simp only [List.length_map, List.length_append, List.length_take, List.length_drop, List.length_set]; omega))); (case h7 => (first | decide | omega | (simp only [List.length_map, List.length_append, List.length_take, List.length_drop, List.length_set]; omega))))
  | (apply h_put 0; (case h => assumption); (case e => with_unfolding_all rfl); (case h0 => (first | decide | omega | (simp only [List.length_map, List.length_append, List.length_take, List.length_drop, List.length_set]; omega))); (case h1 => (first | decide | omega | (simp only [List.length_map, List.length_append, List.length_take, List.length_drop, List.length_set]; omega))); (case h2 => (first | decide | omega | (simp only [List.length_map, List.length_append, List.length_take, List.length_drop, List.length_set]; omega))); (case h3 => (first | decide | omega | (simp only [List.length_map, List.length_append, List.length_take, List.length_drop, List.length_set]; omega))); (case hs => (first | assumption | (apply Or.inl; assumption) | (apply Or.inr; simp))))
  | (apply h_put 1; (case h => assumption); (case e => with_unfolding_all rfl); (case h0 => (first | decide | omega | (simp only [List.length_map, List.length_append, List.length_take, List.length_drop, List.length_set]; omega))); (case h1 => (first | decide | omega | (simp only [List.length_map, List.length_append, List.length_take, List.length_drop, List.length_set]; omega))); (case h2 => (first | decide | omega | (simp only [List.length_map, List.length_append, List.length_take, List.length_drop, List.length_set]; omega))); (case h3 => (first | decide | omega | (simp only [List.length_map, List.length_append, List.length_take, List.length_drop, List.length_set]; omega))); (case hs => (first | assumption | (apply Or.inl; assumption) | (apply Or.inr; simp))))
  | (apply h_put 2; (case h => assumption); (case e => with_unfolding_all rfl); (case h0 => (first | decide | omega | (simp only [List.length_map, List.length_append, List.length_take, List.length_drop, List.length_set]; omega))); (case h1 => (first | decide | omega | (simp only [List.length_map, List.length_append, List.length_take, List.length_drop, List.length_set]; omega))); (case h2 => (first | decide | omega | (simp only [List.length_map, List.length_append, List.length_take, List.length_drop, List.length_set]; omega))); (case h3 => (first | decide | omega | (simp only [List.length_map, List.length_append, List.length_take, List.length_drop, List.length_set]; omega))); (case hs => (first | assumption | (apply Or.inl; assumption) | (apply Or.inr; simp))))
  | (apply h_wrword 0; (case h => assumption); (case e => with_unfolding_all rfl); (case h0 => (first | decide | omega | (simp only [List.length_map, List.length_append, List.length_take, List.length_drop, List.length_set]; omega))); (case h1 => (first | decide | omega | (simp only [List.length_map, List.length_append, List.length_take, List.length_drop, List.length_set]; omega))); (case h2 => (first | decide | omega | (simp only [List.length_map, List.length_append, List.length_take, List.length_drop, List.length_set]; omega))); (case h3 => (first | decide | omega | (simp only [List.length_map, List.length_append, List.length_take, List.length_drop, List.length_set]; omega))); (case hs => (first | assumption | (apply Or.inl; assumption) | (apply Or.inr; simp))))
  | (apply h_wrword 1; (case h => assumption); (case e => with_unfolding_all rfl); (case h0 => (first | decide | omega | (simp only [List.length_map, List.length_append, List.length_take, List.length_drop, List.length_set]; omega))); (case h1 => (first | decide | omega | (simp only [List.length_map, List.length_append, List.length_take, List.length_drop, List.length_set]; omega))); (case h2 => (first | decide | omega | (simp only [List.length_map, List.length_append, List.length_take, List.length_drop, List.length_set]; omega))); (case h3 => (first | decide | omega | (simp only [List.length_map, List.length_append, List.length_take, List.length_drop, List.length_set]; omega))); (case hs => (first | assumption | (apply Or.inl; assumption) | (apply Or.inr; simp))))
  | (apply h_wrword 2; (case h => assumption); (case e => with_unfolding_all rfl); (case h0 => (first | decide | omega | (simp only [List.length_map, List.length_append, List.length_take, List.length_drop, List.length_set]; omega))); (case h1 => (first | decide | omega | (simp only [List.length_map, List.length_append, List.length_take, List.length_drop, List.length_set]; omega))); (case h2 => (first | decide | omega | (simp only [List.length_map, List.length_append, List.length_take, List.length_drop, List.length_set]; omega))); (case h3 => (first | decide | omega | (simp only [List.length_map, List.length_append, List.length_take, List.length_drop, List.length_set]; omega))); (case hs => (first | assumption | (apply Or.inl; assumption) | (apply Or.inr; simp))))
  | (apply h_power; (case h0 => (first | decide | omega | (simp only [List.length_map, List.length_append, List.length_take, List.length_drop, List.length_set]; omega))); (case h1 => (first | decide | omega | (simp only [List.length_map, List.length_append, List.length_take, List.length_drop, List.length_set]; omega))))
  | (apply h_bounds; (case h => assumption); (case h0 => (first | decide | omega | (simp only [List.length_map, List.length_append, List.length_take, List.length_drop, List.length_set]; omega))); (case h1 => (first | decide | omega | (simp only [List.length_map, List.length_append, List.length_take, List.length_drop, List.length_set]; omega))))
  | (apply h_fld 0; (case h => assumption); (case e => with_unfolding_all rfl); (case c => assumption); (case hf => (repeat (first | apply List.mem_cons_self | apply List.mem_cons_of_mem))); (case hl => (first | exact Wk_kind | exact Wk_source | exact Wk_target | exact Wk_value | exact Wk_done | exact Wk_source_bytes | exact Wk_target_bytes | exact Wk_result | exact Wk_new)))
  | (apply h_fld 1; (case h => assumption); (case e => with_unfolding_all rfl); (case c => assumption); (case hf => (repeat (first | apply List.mem_cons_self | apply List.mem_cons_of_mem))); (case hl => (first | exact Wk_kind | exact Wk_source | exact Wk_target | exact Wk_value | exact Wk_done | exact Wk_source_bytes | exact Wk_target_bytes | exact Wk_result | exact Wk_new)))
  | (apply h_fld 2; (case h => assumption); (case e => with_unfolding_all rfl); (case c => assumption); (case hf => (repeat (first | apply List.mem_cons_self | apply List.mem_cons_of_mem))); (case hl => (first | exact Wk_kind | exact Wk_source | exact Wk_target | exact Wk_value | exact Wk_done | exact Wk_source_bytes | exact Wk_target_bytes | exact Wk_result | exact Wk_new)))
  | (apply h_fld 3; (case h => assumption); (case e => with_unfolding_all rfl); (case c => assumption); (case hf => (repeat (first | apply List.mem_cons_self | apply List.mem_cons_of_mem))); (case hl => (first | exact Wk_kind | exact Wk_source | exact Wk_target | exact Wk_value | exact Wk_done | exact Wk_source_bytes | exact Wk_target_bytes | exact Wk_result | exact Wk_new)))
  | (apply h_sfld 0; (case h => assumption); (case e => with_unfolding_all rfl); (case c => assumption); (case hf => (repeat (first | apply List.mem_cons_self | apply List.mem_cons_of_mem))); (case hs => (first | assumption | (apply Or.inl; assumption) | (apply Or.inr; simp))); (case hl => (with_unfolding_all exact Nat.le_of_ble_eq_true rfl)); (case hp => (first | exact Wk_put_kind | exact Wk_put_source | exact Wk_put_target | exact Wk_put_value | exact Wk_put_done | exact Wk_put_source_bytes | exact Wk_put_target_bytes | exact Wk_put_result | exact Wk_put_new | exact Wk_new_kind | exact Wk_new_source | exact Wk_new_target | exact Wk_new_value | exact Wk_new_done | exact Wk_new_source_bytes | exact Wk_new_target_bytes | exact Wk_new_result | exact Wk_new_new)))
  | (apply h_sfld 1; (case h => assumption); (case e => with_unfolding_all rfl); (case c => assumption); (case hf => (repeat (first | apply List.mem_cons_self | apply List.mem_cons_of_mem))); (case hs => (first | assumption | (apply Or.inl; assumption) | (apply Or.inr; simp))); (case hl => (with_unfolding_all exact Nat.le_of_ble_eq_true rfl)); (case hp => (first | exact Wk_put_kind | exact Wk_put_source | exact Wk_put_target | exact Wk_put_value | exact Wk_put_done | exact Wk_put_source_bytes | exact Wk_put_target_bytes | exact Wk_put_result | exact Wk_put_new | exact Wk_new_kind | exact Wk_new_source | exact Wk_new_target | exact Wk_new_value | exact Wk_new_done | exact Wk_new_source_bytes | exact Wk_new_target_bytes | exact Wk_new_result | exact Wk_new_new)))
  | (apply h_sfld 2; (case h => assumption); (case e => with_unfolding_all rfl); (case c => assumption); (case hf => (repeat (first | apply List.mem_cons_self | apply List.mem_cons_of_mem))); (case hs => (first | assumption | (apply Or.inl; assumption) | (apply Or.inr; simp))); (case hl => (with_unfolding_all exact Nat.le_of_ble_eq_true rfl)); (case hp => (first | exact Wk_put_kind | exact Wk_put_source | exact Wk_put_target | exact Wk_put_value | exact Wk_put_done | exact Wk_put_source_bytes | exact Wk_put_target_bytes | exact Wk_put_result | exact Wk_put_new | exact Wk_new_kind | exact Wk_new_source | exact Wk_new_target | exact Wk_new_value | exact Wk_new_done | exact Wk_new_source_bytes | exact Wk_new_target_bytes | exact Wk_new_result | exact Wk_new_new)))
  | (apply h_sfld 3; (case h => assumption); (case e => with_unfolding_all rfl); (case c => assumption); (case hf => (repeat (first | apply List.mem_cons_self | apply List.mem_cons_of_mem))); (case hs => (first | assumption | (apply Or.inl; assumption) | (apply Or.inr; simp))); (case hl => (with_unfolding_all exact Nat.le_of_ble_eq_true rfl)); (case hp => (first | exact Wk_put_kind | exact Wk_put_source | exact Wk_put_target | exact Wk_put_value | exact Wk_put_done | exact Wk_put_source_bytes | exact Wk_put_target_bytes | exact Wk_put_result | exact Wk_put_new | exact Wk_new_kind | exact Wk_new_source | exact Wk_new_target | exact Wk_new_value | exact Wk_new_done | exact Wk_new_source_bytes | exact Wk_new_target_bytes | exact Wk_new_result | exact Wk_new_new)))
  | (apply h_faug 0; (case h => assumption); (case e => with_unfolding_all rfl); (case c => assumption); (case hf => (repeat (first | apply List.mem_cons_self | apply List.mem_cons_of_mem))); (case hl => (first | exact Wk_kind | exact Wk_source | exact Wk_target | exact Wk_value | exact Wk_done | exact Wk_source_bytes | exact Wk_target_bytes | exact Wk_result | exact Wk_new)))
  | (apply h_faug 1; (case h => assumption); (case e => with_unfolding_all rfl); (case c => assumption); (case hf => (repeat (first | apply List.mem_cons_self | apply List.mem_cons_of_mem))); (case hl => (first | exact Wk_kind | exact Wk_source | exact Wk_target | exact Wk_value | exact Wk_done | exact Wk_source_bytes | exact Wk_target_bytes | exact Wk_result | exact Wk_new)))
  | (apply h_faug 2; (case h => assumption); (case e => with_unfolding_all rfl); (case c => assumption); (case hf => (repeat (first | apply List.mem_cons_self | apply List.mem_cons_of_mem))); (case hl => (first | exact Wk_kind | exact Wk_source | exact Wk_target | exact Wk_value | exact Wk_done | exact Wk_source_bytes | exact Wk_target_bytes | exact Wk_result | exact Wk_new)))
  | (apply h_faug 3; (case h => assumption); (case e => with_unfolding_all rfl); (case c => assumption); (case hf => (repeat (first | apply List.mem_cons_self | apply List.mem_cons_of_mem))); (case hl => (first | exact Wk_kind | exact Wk_source | exact Wk_target | exact Wk_value | exact Wk_done | exact Wk_source_bytes | exact Wk_target_bytes | exact Wk_result | exact Wk_new)))
  | (apply h_faug2 0; (case h => assumption); (case e => with_unfolding_all rfl); (case hs => (first | assumption | (apply Or.inl; assumption) | (apply Or.inr; simp))); (case hl => (with_unfolding_all exact Nat.le_of_ble_eq_true rfl)); (case hp => (first | exact Wk_put_kind | exact Wk_put_source | exact Wk_put_target | exact Wk_put_value | exact Wk_put_done | exact Wk_put_source_bytes | exact Wk_put_target_bytes | exact Wk_put_result | exact Wk_put_new | exact Wk_new_kind | exact Wk_new_source | exact Wk_new_target | exact Wk_new_value | exact Wk_new_done | exact Wk_new_source_bytes | exact Wk_new_target_bytes | exact Wk_new_result | exact Wk_new_new)))
  | (apply h_faug2 1; (case h => assumption); (case e => with_unfolding_all rfl); (case hs => (first | assumption | (apply Or.inl; assumption) | (apply Or.inr; simp))); (case hl => (with_unfolding_all exact Nat.le_of_ble_eq_true rfl)); (case hp => (first | exact Wk_put_kind | exact Wk_put_source | exact Wk_put_target | exact Wk_put_value | exact Wk_put_done | exact Wk_put_source_bytes | exact Wk_put_target_bytes | exact Wk_put_result | exact Wk_put_new | exact Wk_new_kind | exact Wk_new_source | exact Wk_new_target | exact Wk_new_value | exact Wk_new_done | exact Wk_new_source_bytes | exact Wk_new_target_bytes | exact Wk_new_result | exact Wk_new_new)))
  | (apply h_faug2 2; (case h => assumption); (case e => with_unfolding_all rfl); (case hs => (first | assumption | (apply Or.inl; assumption) | (apply Or.inr; simp))); (case hl => (with_unfolding_all exact Nat.le_of_ble_eq_true rfl)); (case hp => (first | exact Wk_put_kind | exact Wk_put_source | exact Wk_put_target | exact Wk_put_value | exact Wk_put_done | exact Wk_put_source_bytes | exact Wk_put_target_bytes | exact Wk_put_result | exact Wk_put_new | exact Wk_new_kind | exact Wk_new_source | exact Wk_new_target | exact Wk_new_value | exact Wk_new_done | exact Wk_new_source_bytes | exact Wk_new_target_bytes | exact Wk_new_result | exact Wk_new_new)))
  | (apply h_faug2 3; (case h => assumption); (case e => with_unfolding_all rfl); (case hs => (first | assumption | (apply Or.inl; assumption) | (apply Or.inr; simp))); (case hl => (with_unfolding_all exact Nat.le_of_ble_eq_true rfl)); (case hp => (first | exact Wk_put_kind | exact Wk_put_source | exact Wk_put_target | exact Wk_put_value | exact Wk_put_done | exact Wk_put_source_bytes | exact Wk_put_target_bytes | exact Wk_put_result | exact Wk_put_new | exact Wk_new_kind | exact Wk_new_source | exact Wk_new_target | exact Wk_new_value | exact Wk_new_done | exact Wk_new_source_bytes | exact Wk_new_target_bytes | exact Wk_new_result | exact Wk_new_new)))
  | (apply h_meth 0; (case h => assumption); (case e => with_unfolding_all rfl); (case hl => (first | exact Wk_no_written | exact Wk_no_source_reads | exact Wk_no_target_reads | exact Wk_no_writes | exact Wk_no_reads | exact Wk_no_total | exact Wk_no_read_source | exact Wk_no_make_new | exact Wk_no_target_place | exact Wk_no_step | exact Wk_no_write | exact Wk_no_finish)))
  | (apply h_meth 1; (case h => assumption); (case e => with_unfolding_all rfl); (case hl => (first | exact Wk_no_written | exact Wk_no_source_reads | exact Wk_no_target_reads | exact Wk_no_writes | exact Wk_no_reads | exact Wk_no_total | exact Wk_no_read_source | exact Wk_no_make_new | exact Wk_no_target_place | exact Wk_no_step | exact Wk_no_write | exact Wk_no_finish)))
  | (apply h_meth 2; (case h => assumption); (case e => with_unfolding_all rfl); (case hl => (first | exact Wk_no_written | exact Wk_no_source_reads | exact Wk_no_target_reads | exact Wk_no_writes | exact Wk_no_reads | exact Wk_no_total | exact Wk_no_read_source | exact Wk_no_make_new | exact Wk_no_target_place | exact Wk_no_step | exact Wk_no_write | exact Wk_no_finish)))
  | (apply h_meth 3; (case h => assumption); (case e => with_unfolding_all rfl); (case hl => (first | exact Wk_no_written | exact Wk_no_source_reads | exact Wk_no_target_reads | exact Wk_no_writes | exact Wk_no_reads | exact Wk_no_total | exact Wk_no_read_source | exact Wk_no_make_new | exact Wk_no_target_place | exact Wk_no_step | exact Wk_no_write | exact Wk_no_finish)))
  | (apply h_ninT; (case h => (first | apply Im.int | apply Im.str | apply Im.bl | apply Im.non | assumption | (apply h_imm 0; (case h => assumption); (case e => with_unfolding_all rfl)) | (apply h_imm 1; (case h => assumption); (case e => with_unfolding_all rfl)) | (apply h_imm 2; (case h => assumption); (case e => with_unfolding_all rfl)) | (apply h_imm 3; (case h => assumption); (case e => with_unfolding_all rfl)) | (apply h_imm 4; (case h => assumption); (case e => with_unfolding_all rfl)) | (apply h_imm 5; (case h => assumption); (case e => with_unfolding_all rfl)))); (case hv => with_unfolding_all rfl); (case f1 => with_unfolding_all rfl); (case f2 => with_unfolding_all rfl))
  | (apply h_inT; (case h => (first | apply Im.int | apply Im.str | apply Im.bl | apply Im.non | assumption | (apply h_imm 0; (case h => assumption); (case e => with_unfolding_all rfl)) | (apply h_imm 1; (case h => assumption); (case e => with_unfolding_all rfl)) | (apply h_imm 2; (case h => assumption); (case e => with_unfolding_all rfl)) | (apply h_imm 3; (case h => assumption); (case e => with_unfolding_all rfl)) | (apply h_imm 4; (case h => assumption); (case e => with_unfolding_all rfl)) | (apply h_imm 5; (case h => assumption); (case e => with_unfolding_all rfl)))); (case hv => with_unfolding_all rfl); (case f1 => with_unfolding_all rfl); (case f2 => with_unfolding_all rfl))
  | (apply h_Wwri; (case h => assumption); (case i1 => (first | apply Im.int | apply Im.str | apply Im.bl | apply Im.non | assumption | (apply h_imm 0; (case h => assumption); (case e => with_unfolding_all rfl)) | (apply h_imm 1; (case h => assumption); (case e => with_unfolding_all rfl)) | (apply h_imm 2; (case h => assumption); (case e => with_unfolding_all rfl)) | (apply h_imm 3; (case h => assumption); (case e => with_unfolding_all rfl)) | (apply h_imm 4; (case h => assumption); (case e => with_unfolding_all rfl)) | (apply h_imm 5; (case h => assumption); (case e => with_unfolding_all rfl)))); (case i2 => (first | apply Im.int | apply Im.str | apply Im.bl | apply Im.non | assumption | (apply h_imm 0; (case h => assumption); (case e => with_unfolding_all rfl)) | (apply h_imm 1; (case h => assumption); (case e => with_unfolding_all rfl)) | (apply h_imm 2; (case h => assumption); (case e => with_unfolding_all rfl)) | (apply h_imm 3; (case h => assumption); (case e => with_unfolding_all rfl)) | (apply h_imm 4; (case h => assumption); (case e => with_unfolding_all rfl)) | (apply h_imm 5; (case h => assumption); (case e => with_unfolding_all rfl)))))
  | (apply h_Wsrd; (case h => assumption); (case i1 => (first | apply Im.int | apply Im.str | apply Im.bl | apply Im.non | assumption | (apply h_imm 0; (case h => assumption); (case e => with_unfolding_all rfl)) | (apply h_imm 1; (case h => assumption); (case e => with_unfolding_all rfl)) | (apply h_imm 2; (case h => assumption); (case e => with_unfolding_all rfl)) | (apply h_imm 3; (case h => assumption); (case e => with_unfolding_all rfl)) | (apply h_imm 4; (case h => assumption); (case e => with_unfolding_all rfl)) | (apply h_imm 5; (case h => assumption); (case e => with_unfolding_all rfl)))); (case i2 => (first | apply Im.int | apply Im.str | apply Im.bl | apply Im.non | assumption | (apply h_imm 0; (case h => assumption); (case e => with_unfolding_all rfl)) | (apply h_imm 1; (case h => assumption); (case e => with_unfolding_all rfl)) | (apply h_imm 2; (case h => assumption); (case e => with_unfolding_all rfl)) | (apply h_imm 3; (case h => assumption); (case e => with_unfolding_all rfl)) | (apply h_imm 4; (case h => assumption); (case e => with_unfolding_all rfl)) | (apply h_imm 5; (case h => assumption); (case e => with_unfolding_all rfl)))))
  | (apply h_Wtrd; (case h => assumption); (case i1 => (first | apply Im.int | apply Im.str | apply Im.bl | apply Im.non | assumption | (apply h_imm 0; (case h => assumption); (case e => with_unfolding_all rfl)) | (apply h_imm 1; (case h => assumption); (case e => with_unfolding_all rfl)) | (apply h_imm 2; (case h => assumption); (case e => with_unfolding_all rfl)) | (apply h_imm 3; (case h => assumption); (case e => with_unfolding_all rfl)) | (apply h_imm 4; (case h => assumption); (case e => with_unfolding_all rfl)) | (apply h_imm 5; (case h => assumption); (case e => with_unfolding_all rfl)))); (case i2 => (first | apply Im.int | apply Im.str | apply Im.bl | apply Im.non | assumption | (apply h_imm 0; (case h => assumption); (case e => with_unfolding_all rfl)) | (apply h_imm 1; (case h => assumption); (case e => with_unfolding_all rfl)) | (apply h_imm 2; (case h => assumption); (case e => with_unfolding_all rfl)) | (apply h_imm 3; (case h => assumption); (case e => with_unfolding_all rfl)) | (apply h_imm 4; (case h => assumption); (case e => with_unfolding_all rfl)) | (apply h_imm 5; (case h => assumption); (case e => with_unfolding_all rfl)))))
  | (apply h_Wwrs; (case h => assumption); (case i1 => (first | apply Im.int | apply Im.str | apply Im.bl | apply Im.non | assumption | (apply h_imm 0; (case h => assumption); (case e => with_unfolding_all rfl)) | (apply h_imm 1; (case h => assumption); (case e => with_unfolding_all rfl)) | (apply h_imm 2; (case h => assumption); (case e => with_unfolding_all rfl)) | (apply h_imm 3; (case h => assumption); (case e => with_unfolding_all rfl)) | (apply h_imm 4; (case h => assumption); (case e => with_unfolding_all rfl)) | (apply h_imm 5; (case h => assumption); (case e => with_unfolding_all rfl)))); (case i2 => (first | apply Im.int | apply Im.str | apply Im.bl | apply Im.non | assumption | (apply h_imm 0; (case h => assumption); (case e => with_unfolding_all rfl)) | (apply h_imm 1; (case h => assumption); (case e => with_unfolding_all rfl)) | (apply h_imm 2; (case h => assumption); (case e => with_unfolding_all rfl)) | (apply h_imm 3; (case h => assumption); (case e => with_unfolding_all rfl)) | (apply h_imm 4; (case h => assumption); (case e => with_unfolding_all rfl)) | (apply h_imm 5; (case h => assumption); (case e => with_unfolding_all rfl)))))
  | (apply h_Wrds; (case h => assumption); (case i1 => (first | apply Im.int | apply Im.str | apply Im.bl | apply Im.non | assumption | (apply h_imm 0; (case h => assumption); (case e => with_unfolding_all rfl)) | (apply h_imm 1; (case h => assumption); (case e => with_unfolding_all rfl)) | (apply h_imm 2; (case h => assumption); (case e => with_unfolding_all rfl)) | (apply h_imm 3; (case h => assumption); (case e => with_unfolding_all rfl)) | (apply h_imm 4; (case h => assumption); (case e => with_unfolding_all rfl)) | (apply h_imm 5; (case h => assumption); (case e => with_unfolding_all rfl)))); (case i2 => (first | apply Im.int | apply Im.str | apply Im.bl | apply Im.non | assumption | (apply h_imm 0; (case h => assumption); (case e => with_unfolding_all rfl)) | (apply h_imm 1; (case h => assumption); (case e => with_unfolding_all rfl)) | (apply h_imm 2; (case h => assumption); (case e => with_unfolding_all rfl)) | (apply h_imm 3; (case h => assumption); (case e => with_unfolding_all rfl)) | (apply h_imm 4; (case h => assumption); (case e => with_unfolding_all rfl)) | (apply h_imm 5; (case h => assumption); (case e => with_unfolding_all rfl)))))
  | (apply h_Wtot; (case h => assumption); (case i1 => (first | apply Im.int | apply Im.str | apply Im.bl | apply Im.non | assumption | (apply h_imm 0; (case h => assumption); (case e => with_unfolding_all rfl)) | (apply h_imm 1; (case h => assumption); (case e => with_unfolding_all rfl)) | (apply h_imm 2; (case h => assumption); (case e => with_unfolding_all rfl)) | (apply h_imm 3; (case h => assumption); (case e => with_unfolding_all rfl)) | (apply h_imm 4; (case h => assumption); (case e => with_unfolding_all rfl)) | (apply h_imm 5; (case h => assumption); (case e => with_unfolding_all rfl)))); (case i2 => (first | apply Im.int | apply Im.str | apply Im.bl | apply Im.non | assumption | (apply h_imm 0; (case h => assumption); (case e => with_unfolding_all rfl)) | (apply h_imm 1; (case h => assumption); (case e => with_unfolding_all rfl)) | (apply h_imm 2; (case h => assumption); (case e => with_unfolding_all rfl)) | (apply h_imm 3; (case h => assumption); (case e => with_unfolding_all rfl)) | (apply h_imm 4; (case h => assumption); (case e => with_unfolding_all rfl)) | (apply h_imm 5; (case h => assumption); (case e => with_unfolding_all rfl)))))
  | (apply h_Wplace; (case h => assumption); (case i1 => (first | apply Im.int | apply Im.str | apply Im.bl | apply Im.non | assumption | (apply h_imm 0; (case h => assumption); (case e => with_unfolding_all rfl)) | (apply h_imm 1; (case h => assumption); (case e => with_unfolding_all rfl)) | (apply h_imm 2; (case h => assumption); (case e => with_unfolding_all rfl)) | (apply h_imm 3; (case h => assumption); (case e => with_unfolding_all rfl)) | (apply h_imm 4; (case h => assumption); (case e => with_unfolding_all rfl)) | (apply h_imm 5; (case h => assumption); (case e => with_unfolding_all rfl)))); (case i2 => (first | apply Im.int | apply Im.str | apply Im.bl | apply Im.non | assumption | (apply h_imm 0; (case h => assumption); (case e => with_unfolding_all rfl)) | (apply h_imm 1; (case h => assumption); (case e => with_unfolding_all rfl)) | (apply h_imm 2; (case h => assumption); (case e => with_unfolding_all rfl)) | (apply h_imm 3; (case h => assumption); (case e => with_unfolding_all rfl)) | (apply h_imm 4; (case h => assumption); (case e => with_unfolding_all rfl)) | (apply h_imm 5; (case h => assumption); (case e => with_unfolding_all rfl)))))
  | (apply h_whole; (case h => (first | apply Im.int | apply Im.str | apply Im.bl | apply Im.non | assumption | (apply h_imm 0; (case h => assumption); (case e => with_unfolding_all rfl)) | (apply h_imm 1; (case h => assumption); (case e => with_unfolding_all rfl)) | (apply h_imm 2; (case h => assumption); (case e => with_unfolding_all rfl)) | (apply h_imm 3; (case h => assumption); (case e => with_unfolding_all rfl)) | (apply h_imm 4; (case h => assumption); (case e => with_unfolding_all rfl)) | (apply h_imm 5; (case h => assumption); (case e => with_unfolding_all rfl)))))
  | (apply h_sl2 0; (case h => assumption); (case e => with_unfolding_all rfl); (case hi => (first | decide | omega | (simp only [List.length_map, List.length_append, List.length_take, List.length_drop, List.length_set]; omega))); (case hj => (first | decide | omega | (simp only [List.length_map, List.length_append, List.length_take, List.length_drop, List.length_set]; omega))))
  | (apply h_sl2 1; (case h => assumption); (case e => with_unfolding_all rfl); (case hi => (first | decide | omega | (simp only [List.length_map, List.length_append, List.length_take, List.length_drop, List.length_set]; omega))); (case hj => (first | decide | omega | (simp only [List.length_map, List.length_append, List.length_take, List.length_drop, List.length_set]; omega))))
  | (apply h_sl2 2; (case h => assumption); (case e => with_unfolding_all rfl); (case hi => (first | decide | omega | (simp only [List.length_map, List.length_append, List.length_take, List.length_drop, List.length_set]; omega))); (case hj => (first | decide | omega | (simp only [List.length_map, List.length_append, List.length_take, List.length_drop, List.length_set]; omega))))
  | (apply h_slp 0; (case h => assumption); (case e => with_unfolding_all rfl); (case hj => (first | decide | omega | (simp only [List.length_map, List.length_append, List.length_take, List.length_drop, List.length_set]; omega))))
  | (apply h_slp 1; (case h => assumption); (case e => with_unfolding_all rfl); (case hj => (first | decide | omega | (simp only [List.length_map, List.length_append, List.length_take, List.length_drop, List.length_set]; omega))))
  | (apply h_slp 2; (case h => assumption); (case e => with_unfolding_all rfl); (case hj => (first | decide | omega | (simp only [List.length_map, List.length_append, List.length_take, List.length_drop, List.length_set]; omega))))
  | (apply h_sls 0; (case h => assumption); (case e => with_unfolding_all rfl); (case hi => (first | decide | omega | (simp only [List.length_map, List.length_append, List.length_take, List.length_drop, List.length_set]; omega))))
  | (apply h_sls 1; (case h => assumption); (case e => with_unfolding_all rfl); (case hi => (first | decide | omega | (simp only [List.length_map, List.length_append, List.length_take, List.length_drop, List.length_set]; omega))))
  | (apply h_sls 2; (case h => assumption); (case e => with_unfolding_all rfl); (case hi => (first | decide | omega | (simp only [List.length_map, List.length_append, List.length_take, List.length_drop, List.length_set]; omega))))
  | (apply h_reverse 0; (case h => assumption); (case e => with_unfolding_all rfl); (case hs => (first | assumption | (apply Or.inl; assumption) | (apply Or.inr; simp))))
  | (apply h_reverse 1; (case h => assumption); (case e => with_unfolding_all rfl); (case hs => (first | assumption | (apply Or.inl; assumption) | (apply Or.inr; simp))))
  | (apply h_reverse 2; (case h => assumption); (case e => with_unfolding_all rfl); (case hs => (first | assumption | (apply Or.inl; assumption) | (apply Or.inr; simp))))) | with_reducible intro))

def t__law_number (K : PySem.W.Frag) (A : Ad) : TS :=
  (tSeq (tAsg (tC (.int 0)) (gName 2))
  (tSeq (tAsg (tCB (hListOf K) (tCons (mV 0) tNil)) (gName 3))
  (mCut (mIf (tNot (mTr K (mV 1)))
    (tDrop (tBM0 K "list" rReverse (mV 3)))
    tNext)
  (tSeq (tFor (jL K (mV 3)) (gName 4)
    (tAsg (tOp (mAdd K) (tOp mMul (mV 2) (tC (.int 256))) (mV 4)) (gName 2)))
  (tRet (mV 2))))))
theorem rd__law_number {K : PySem.W.Frag} {A : Ad} {vs : List V} {H : Hp} {Q : VK} {E : XK} (h : sp__law_number K A vs H Q E) : t__law_number K A { nx := fun _ H' => Q .non H', rt := Q } (start ["_law_digits_here", "_law_big", "_law_number_here", "_law_rows", "_law_digit"] vs) H := by
  obtain ⟨a, ds, big, rfl, ha, k⟩ := h
  show t__law_number K A _ [some (.ref a), some (.bl big), none, none, none] H
  unfold t__law_number
  have hL : Led K H [] H [] [] := Led.start
  walk_at "gs"
  refine h_listOfQ hL ha fun p H1 np h1 => ?_
  walk_at "gs"
  refine h_cut (fun σ H2 => σ = [some (.ref a), some (.bl big), some (.int 0), some (.ref p), none] ∧ Led K H [] H2 [(p, .raw (.lst ((ord (!big) ds).map V.int)))] []) ?_ ?_
  · walk_at "gs"
    refine h_brbN (fun hb => ?_) (fun hb => ?_)
    · subst hb
      walk_at "gs"
      rename_i H2 h2
      exact h2
    · subst hb
      walk_at "gs"
      exact h1
  rintro σ H2 ⟨rfl, h2⟩
  clear h1 hL
  walk_at "gs"
  refine lpL (fun i σ H3 => ∃ y4 : Option V, σ = [some (.ref a), some (.bl big), some (.int (vn 256 (((ord (!big) ds).take i).reverse))), some (.ref p), y4] ∧ Led K H [] H3 [(p, .raw (.lst ((ord (!big) ds).map V.int)))] [])
    ⟨none, rfl, h2⟩ (fun i σ H3 _ ⟨_, _, h3⟩ => h3.sqL 0 rfl) ?_ ?_
  · rintro i x σ H3 hx ⟨y4, rfl, h3⟩
    obtain ⟨z, hz, rfl⟩ := map_get hx
    walk_at "gs"
    refine ⟨some (.int z), ?_, h3⟩
    rw [List.take_add_one, hz]
    show [some (V.ref a), some (V.bl big), some (V.int (vn 256 (((ord (!big) ds).take i).reverse) * 256 + z)), some (V.ref p), some (V.int z)] = _
    rw [show (some z).toList = [z] from rfl, List.reverse_append, List.reverse_singleton, List.singleton_append, vn, Int.mul_comm, Int.add_comm]
  · rintro σ H3 ⟨y4, rfl, h3⟩
    walk_at "gs"
    rw [List.length_map, List.take_of_length_le (Nat.le_refl _)]
    have e : (ord (!big) ds).reverse = ord big ds := by
      cases big
      · exact List.reverse_reverse ds
      · rfl
    rw [e]
    exact k _ (KBs.same h3.kp)
def t__law_with (K : PySem.W.Frag) (A : Ad) : TS :=
  (tSeq (tAsg (mV 1) (gTup K 5 (mGc (gName 3) (mGc (gName 4) (mGc (gName 5) (mGc (gName 6) (mGc (gName 7) mGn)))))))
  (tSeq (tAsg (tCall (sp__law_number K A) [] E0 (tCons (mV 0) (tCons (mV 4) tNil))) (gName 8))
  (tSeq (tAsg (tOp mMod (tOp mShr (mV 8) (mV 5)) (tOp mShl (tC (.int 1)) (mV 6))) (gName 9))
  (tSeq (tAsg (tOp (mAdd K) (mV 8) (tOp mShl (tOp mSub (tOp mMod (mV 2) (tOp mShl (tC (.int 1)) (mV 6))) (mV 9)) (mV 5))) (gName 8))
  (tSeq (tAsg (tLst tNil) (gName 10))
  (tSeq (tFor (jR1 (tCons (mV 3) tNil)) (gName 11)
    (tSeq (tDrop (tBM K "list" rAppend (mV 10) (tCons (tOp mMod (mV 8) (tC (.int 256))) tNil)))
  (tAsg (tOp mFdiv (mV 8) (tC (.int 256))) (gName 8))))
  (mCut (mIf (mTr K (mV 4))
    (tDrop (tBM0 K "list" rReverse (mV 10)))
    tNext)
  (tRet (mV 10)))))))))
theorem rd__law_with {K : PySem.W.Frag} {A : Ad} {vs : List V} {H : Hp} {Q : VK} {E : XK} (h : sp__law_with K A vs H Q E) : t__law_with K A { nx := fun _ H' => Q .non H', rt := Q } (start ["_law_digits_here", "_law_slot_here", "_law_value", "_law_size", "_law_big", "_law_first", "_law_width", "_law_signed", "_law_number_here", "_law_old", "_law_rows", "_law_k"] vs) H := by
  obtain ⟨a, b, ds, x, v, rfl, ha, hx, ok, hl, k⟩ := h
  show t__law_with K A _ [some (.ref a), some (.ref b), some (.int v), none, none, none, none, none, none, none, none, none] H
  unfold t__law_with
  obtain ⟨n0, n4, w0, fw⟩ := ok
  have hL : Led K H [] H [] [(.ref b, .tuple [.int x.n, .bool x.big, .int x.f, .int x.w, .bool x.s])] := Led.start.imNew hx
  have pf := p2_pos x.f
  have pw := p2_pos x.w
  walk_at "gs"
  refine ⟨a, ds, x.big, rfl, ha, fun H1 s1 => ?_⟩
  have h1 := hL.same s1
  walk_at "gs"
  simp only [Int.toNat_natCast, Int.one_mul]
  have p32 : (2 : Int) ^ x.w ≤ 2 ^ 32 := p2_le (by omega)
  have b1 := Int.emod_nonneg v (show (2 : Int) ^ x.w ≠ 0 by omega)
  have b2 := Int.emod_lt_of_pos v pw
  have c1 := Int.emod_nonneg (vn 256 (ord x.big ds) / 2 ^ x.f) (show (2 : Int) ^ x.w ≠ 0 by omega)
  have c2 := Int.emod_lt_of_pos (vn 256 (ord x.big ds) / 2 ^ x.f) pw
  refine ⟨pw, ⟨by omega, by omega, by decide⟩, pw, ⟨by omega, by omega, by omega⟩, ?_⟩
  walk_at "gs"
  rename_i p H2 np h2
  have h2 : Led K H [] H2 [(p, .raw (.lst ((dg 256 0 (nslot (vn 256 (ord x.big ds)) x.f x.w v)).map V.int)))] _ := h2
  refine lpR (fun i σ H3 => ∃ y11 : Option V, σ = [some (.ref a), some (.ref b), some (.int v), some (.int x.n), some (.bl x.big), some (.int x.f), some (.int x.w), some (.bl x.s), some (.int (nslot (vn 256 (ord x.big ds)) x.f x.w v / 256 ^ i)), some (.int (vn 256 (ord x.big ds) / 2 ^ x.f % 2 ^ x.w)), some (.ref p), y11] ∧
      Led K H [] H3 [(p, .raw (.lst ((dg 256 i (nslot (vn 256 (ord x.big ds)) x.f x.w v)).map V.int)))] []) ⟨none, ?_, h2.noI⟩ ?_ ?_
  · rw [Int.pow_zero, Int.ediv_one]
    unfold nslot
    simp only [Int.toNat_natCast, Int.one_mul]
  · clear h1 h2 hL
    rintro i σ H3 hi ⟨y11, rfl, h3⟩
    have hi : i < x.n := hi
    walk_at "gs"
    refine h_appI 0 h3 rfl np (by rw [dg_len, sizeLine_eq]; omega) fun H4 h4 => ?_
    rw [← dg_snoc (by decide)] at h4
    walk_at "gs"
    refine ⟨some (.int (0 + i)), ?_, h4⟩
    rw [Int.pow_succ, ← Int.ediv_ediv_of_nonneg (Int.le_of_lt (Int.pow_pos (by decide)))]
  · clear h1 h2 hL
    rintro σ H3 ⟨y11, rfl, h3⟩
    have h3 : Led K H [] H3 [(p, .raw (.lst ((dg 256 x.n (nslot (vn 256 (ord x.big ds)) x.f x.w v)).map V.int)))] [] := h3
    have fin : ∀ {H' : Hp} {l : List Int}, l = wr5 x ds v → Led K H [] H' [(p, .raw (.lst (l.map V.int)))] [] → Q (.ref p) H' := fun e hh => by
      subst e
      exact k p _ (KBs.same hh.kp) (np.elim id fun z => nomatch z) (hh.raw 0 rfl)
    walk_at "gs"
    refine h_cut (fun σ H4 => ∃ y8 y11, σ = [some (.ref a), some (.ref b), some (.int v), some (.int x.n), some (.bl x.big), some (.int x.f), some (.int x.w), some (.bl x.s), y8, some (.int (vn 256 (ord x.big ds) / 2 ^ x.f % 2 ^ x.w)), some (.ref p), y11] ∧
      Led K H [] H4 [(p, .raw (.lst ((wr5 x ds v).map V.int)))] []) ?_ ?_
    · walk_at "gs"
      refine h_brb (fun hb => ?_) (fun hb => ?_)
      · walk_at "gs"
        rename_i H4 h4
        refine ⟨_, _, rfl, ?_⟩
        rw [wr5_eq hl, show ord x.big (dg 256 x.n (nslot (vn 256 (ord x.big ds)) x.f x.w v)) = (dg 256 x.n (nslot (vn 256 (ord x.big ds)) x.f x.w v)).reverse from by rw [hb]; rfl]
        exact h4
      · walk_at "gs"
        refine ⟨_, _, rfl, ?_⟩
        rw [wr5_eq hl, show ord x.big (dg 256 x.n (nslot (vn 256 (ord x.big ds)) x.f x.w v)) = dg 256 x.n (nslot (vn 256 (ord x.big ds)) x.f x.w v) from by rw [hb]; rfl]
        exact h3
    rintro σ H4 ⟨y8, y11, rfl, h4⟩
    walk_at "gs"
    exact fin rfl h4

/-! ### what a whole work tells -/
def Cf.rdAt (c : Cf) (D : List Int) (so : Option Nat) : Option Int := match c.src with | none => none | some x => some (rd5 x (seg D (so.getD 0) x.n))
def Cf.toldAt (c : Cf) (D : List Int) (so : Option Nat) : Option Int := if c.isSet = true then none else c.resAt D so
def oP : Option Int → PyData | some i => .int i | none => .none
def Cf.ansD (c : Cf) (D : List Int) (so : Option Nat) : PyData := if c.bad D so = true then .tuple [.str "range"] else oP (c.toldAt D so)
def Cf.resD (c : Cf) (D : List Int) (so to : Option Nat) : List Int := if c.bad D so = true then D else c.outD D so to
theorem oP_eq (r : Option Int) : (match r with | some i => PyData.int i | none => .none) = oP r := by cases r <;> rfl
def sp__law_outcome (K : PySem.W.Frag) (A : Ad) : Sp := fun vs H Q _ => ∃ (c : Cf) (sv tv : V) (d : Addr) (D : List Int), vs = [.str c.kind, sv, tv, oI c.val, .ref d] ∧ Led K H [] H [(d, .raw (.lst (D.map V.int)))] (wkI sv tv c) ∧ c.Ok ∧ D.length = 12 ∧ Byt D ∧
  ∀ p du av H', H p = none → H du = none → Led K H [] H' [(p, .raw (.lst [.ref du, av])), (du, .raw (.lst ((c.resD D (plc c.src 1) (plc c.tgt 7)).map V.int))), (d, .raw (.lst (D.map V.int)))] ((av, c.ansD D (plc c.src 1)) :: wkI sv tv c) → Q (.ref p) H'
def sp_law (K : PySem.W.Frag) (A : Ad) : Sp := fun vs H Q _ => ∃ (a : Addr) (ns : List Int), vs = [.ref a] ∧ SqL K H a (ns.map V.int) ∧ ∀ H', Q (.bl true) H'
theorem at_two {x y : V} (b : Bool) : atI [x, y] (if b = true then 1 else 0) = some (if b = true then y else x) := by cases b <;> rfl
theorem h_notNo {K : PySem.W.Frag} {H : Hp} {Q : VK} {x : V} {o : Option S5} (i : Im K H x (oD o)) (k : Q (.bl (!o.isNone)) H) : mNotN x .non H Q := by
  rcases i.oD with ⟨rfl, rfl⟩ | ⟨a, z, rfl, rfl, _⟩
  · exact k
  · exact k
theorem chk_bad {c : Cf} {D : List Int} {so : Option Nat} (h : c.chk = false) : c.bad D so = false := by
  unfold Cf.bad
  rw [h]
  rfl
/-- the range, by the number that is written -/
theorem bad_num {c : Cf} {D : List Int} {so : Option Nat} (ok : c.Ok) (hg : c.isGet = false) : (c.bad D so = false ↔ c.wri.inB (c.numAt D so)) := by
  cases c with
  | get s => exact nomatch hg
  | set t v => exact ⟨fun _ => ok.v rfl v rfl, fun _ => chk_bad rfl⟩
  | exch s v => exact ⟨fun _ => ok.v rfl v rfl, fun _ => chk_bad rfl⟩
  | add s v =>
    show (true && !decide (s.inB (((Cf.add s v).resAt D so).getD 0))) = false ↔ s.inB (((Cf.add s v).resAt D so).getD 0)
    by_cases h : s.inB (((Cf.add s v).resAt D so).getD 0)
    · rw [decide_eq_true h]
      exact ⟨fun _ => h, fun _ => rfl⟩
    · rw [decide_eq_false h]
      exact ⟨fun z => (nomatch z), fun z => absurd z h⟩
  | copy s t =>
    show (true && !decide (t.inB (((Cf.copy s t).resAt D so).getD 0))) = false ↔ t.inB (((Cf.copy s t).resAt D so).getD 0)
    by_cases h : t.inB (((Cf.copy s t).resAt D so).getD 0)
    · rw [decide_eq_true h]
      exact ⟨fun _ => h, fun _ => rfl⟩
    · rw [decide_eq_false h]
      exact ⟨fun z => (nomatch z), fun z => absurd z h⟩
theorem im_oP {K : PySem.W.Frag} {H : Hp} (o : Option Int) : Im K H (oI o) (oP o) := by
  cases o
  · exact .non
  · exact .int _

theorem tot_pos {c : Cf} (ok : c.Ok) : 0 < c.tot := by
  cases c with
  | get s => have := (ok.s s rfl).n0; show 0 < s.n + 0 + 0; omega
  | set t v => have := (ok.t t rfl).n0; show 0 < 0 + (if t.whole = true then 0 else t.n) + t.n; omega
  | add s v => have := (ok.s s rfl).n0; show 0 < s.n + 0 + s.n; omega
  | exch s v => have := (ok.s s rfl).n0; show 0 < s.n + 0 + s.n; omega
  | copy s t => have := (ok.s s rfl).n0; show 0 < s.n + (if t.whole = true then 0 else t.n) + t.n; omega
section
variable {K : PySem.W.Frag} {A : Ad} {H0 H : Hp} {S : List Addr} {L X : List (Addr × Ent)} {I : List (V × PyData)} {Q : VK} {E : XK} {a b d : Addr} {sv tv x : V} {c : Cf} {D : List Int}
theorem h_outcome (h : Led K H0 S H ((d, .raw (.lst (D.map V.int))) :: X) I) (i1 : Im K H sv (oD c.src)) (i2 : Im K H tv (oD c.tgt)) (ok : c.Ok) (hD : D.length = 12) (bD : Byt D)
    (k : ∀ p du av H', (H0 p = none ∨ p ∈ S) → (H0 du = none ∨ du ∈ S) → Led K H0 S H' ((p, .raw (.lst [.ref du, av])) :: (du, .raw (.lst ((c.resD D (plc c.src 1) (plc c.tgt 7)).map V.int))) :: (d, .raw (.lst (D.map V.int))) :: X) ((av, c.ansD D (plc c.src 1)) :: I) → Q (.ref p) H') : sp__law_outcome K A [.str c.kind, sv, tv, oI c.val, .ref d] H Q E := by
  have h0 : Led K H0 S H ([(d, .raw (.lst (D.map V.int)))] ++ X) I := h
  refine ⟨c, sv, tv, d, D, rfl, h0.pre _ _ (fun n v d' e => ?_), ok, hD, bD, fun p du av H' np ndu h2 => ?_⟩
  · match n, e with
    | 0, e =>
      cases e
      exact i1
    | 1, e =>
      cases e
      exact i2
  · have r := h0.backA [] h2 (fun b hb => (nomatch hb)) (fun e he => ?_) (fun b hb => by simp [adr] at hb)
    · exact k p du av H' (h.fr np) (h.fr ndu) (r.iR.imNew (r.im 0 _ _ rfl))
    · simp only [List.mem_cons, List.not_mem_nil, or_false] at he
      rcases he with rfl | rfl | rfl
      · exact .inr np
      · exact .inr ndu
      · exact .inl (by simp)
theorem h_eqMR {d e : PyData} (hx : Im K H x d) (hy : Im K H (.ref b) e) (h1 : SeqAt.shaped d = true) (h2 : SeqAt.shaped e = true) (k : Q (.bl (PyData.eqv d e)) H) : mEq K x (.ref b) H Q := by
  cases x <;> exact h_eqI hx hy h1 h2 k
end
theorem oP_shaped (r : Option Int) : SeqAt.shaped (oP r) = true := by
  cases r <;> simp [oP, SeqAt.shaped, PyData.canLay0, PyData.canLayAll0, PyData.depth, PyData.depthAll]
theorem ans_shaped (c : Cf) (D : List Int) (so : Option Nat) : SeqAt.shaped (c.ansD D so) = true := by
  unfold Cf.ansD
  split
  · exact oT_shaped .range
  · exact oP_shaped _
theorem ans_range (c : Cf) (D : List Int) (so : Option Nat) : PyData.eqv (c.ansD D so) (.tuple [.str "range"]) = c.bad D so := by
  unfold Cf.ansD
  cases h : c.bad D so with
  | true =>
    rw [if_pos rfl]
    exact oT_range .range
  | false =>
    rw [if_neg Bool.false_ne_true]
    cases c.toldAt D so <;> rfl
def Cf.Out.isG : Cf.Out → Bool | .going => true | _ => false
theorem oT_going (o : Cf.Out) : PyData.eqv (.tuple (oT o)) (.tuple [.str "going"]) = o.isG := by
  cases o with
  | going => decide +kernel
  | done r => cases r <;> rfl
  | range => decide +kernel
theorem shw_oP {r : Option Int} (h : ∀ i, r = some i → -(2 ^ 33) ≤ i ∧ i ≤ 2 ^ 33) : shw 0 600 (oP r) := by
  cases r with
  | none => exact shw_none.up (by decide) (by decide)
  | some i =>
    have := h i rfl
    exact (shw_int (by omega)).up (by decide) (by decide)
theorem shw_dn {r : Option Int} (h : ∀ i, r = some i → -(2 ^ 33) ≤ i ∧ i ≤ 2 ^ 33) : shw 1 1202 (.tuple [.str "done", oP r]) := shw_tup (n := 0) (W := 600) fun x hx => by
  rcases List.mem_cons.mp hx with rfl | hx
  · exact shw_done
  · cases List.mem_singleton.mp hx
    exact shw_oP h
theorem told_rng {c : Cf} {D : List Int} {so : Option Nat} (ok : c.Ok) (hb : c.bad D so = false) : ∀ i, c.toldAt D so = some i → -(2 ^ 33) ≤ i ∧ i ≤ 2 ^ 33 := fun i e => by
  cases c with
  | get s =>
    cases (show some (rd5 s (seg D (so.getD 0) s.n)) = some i from e)
    have := rd5_rng (ds := seg D (so.getD 0) s.n) (ok.s s rfl)
    omega
  | set t v => exact nomatch e
  | add s v =>
    have h := (bad_num (D := D) (so := so) ok rfl).mp hb
    cases (show some (rd5 s (seg D (so.getD 0) s.n) + v) = some i from e)
    have := inB_rng (ok.s s rfl) h
    have e : (Cf.add s v).numAt D so = rd5 s (seg D (so.getD 0) s.n) + v := rfl
    omega
  | exch s v =>
    cases (show some (rd5 s (seg D (so.getD 0) s.n)) = some i from e)
    have := rd5_rng (ds := seg D (so.getD 0) s.n) (ok.s s rfl)
    omega
  | copy s t =>
    cases (show some (rd5 s (seg D (so.getD 0) s.n)) = some i from e)
    have := rd5_rng (ds := seg D (so.getD 0) s.n) (ok.s s rfl)
    omega
theorem shw_ints {ds : List Int} (h : ∀ z ∈ ds, z.natAbs < 10 ^ 12) : shw 1 (ds.length * 42) (.list (ds.map PyData.int)) := by
  have q := shw_list (n := 0) (W := 41) (ds := ds.map PyData.int) fun x hx => by
    obtain ⟨z, hz, rfl⟩ := List.mem_map.mp hx
    exact shw_int (h z hz)
  rw [List.length_map] at q
  exact q
theorem resD_byt {c : Cf} {D : List Int} {so to : Option Nat} (ok : c.Ok) (fit : c.Fit D.length so to) (hb : Byt D) : Byt (c.resD D so to) ∧ (c.resD D so to).length = D.length := by
  have hp := (place_is fit).2
  have hl := seg_len (ds := D) (o := c.place so to) (n := c.wri.n) hp
  unfold Cf.resD Cf.outD
  split
  · exact ⟨hb, rfl⟩
  · split
    · exact ⟨hb, rfl⟩
    · exact ⟨byt_putSeg hb (wr5_byt hl), putSeg_len (by rw [wr5_len hl]; exact hp)⟩
theorem oT_done (r : Option Int) : oT (.done r) = [.str "done", oP r] := by cases r <;> rfl

/-! ### dicts whose keys are texts -/
theorem u1 {k : Nat} {A : Around} (r : Room k A) : A.units + 1 < cLine := by
  have := u65 r
  omega
def dgetK (x y : V) (H : Hp) (Q : VK) : Prop := ∃ a v, x = .ref a ∧ DGet H a y (some v) ∧ Q v H
theorem a_dget {td ty : TE} {σ : L2.St} {H : Hp} {Q : VK} : tDGet td ty σ H Q = td σ H fun x H1 => ty σ H1 fun y H2 => dgetK x y H2 Q := rfl
theorem a_pnil {σ : L2.St} {H : Hp} {Q : List (V × V) → Hp → Prop} : tPairs [] σ H Q = Q [] H := rfl
theorem a_pcons {tk tv : TE} {r : List (TE × TE)} {σ : L2.St} {H : Hp} {Q : List (V × V) → Hp → Prop} : tPairs ((tk, tv) :: r) σ H Q = tk σ H fun x H1 => tv σ H1 fun y H2 => tPairs r σ H2 fun ps H3 => Q ((x, y) :: ps) H3 := rfl
theorem kne {a b : Str} (h : ¬ a = b) : ¬ (Sum.inr a : Key) = .inr b := fun e => h (Sum.inr.inj e)
theorem put_new {kvs : List (Key × V)} {k : Key} {v : V} (h : k ∉ kvs.map (·.1)) : putK kvs k v = kvs ++ [(k, v)] := by
  unfold putK
  rw [if_neg]
  intro e
  obtain ⟨x, hx, hk⟩ := List.any_eq_true.mp e
  exact h (List.mem_map.mpr ⟨x, hx, of_decide_eq_true hk⟩)
theorem merge_new : ∀ (more acc : List (Key × V)), ((acc ++ more).map (·.1)).Nodup → mergeK acc more = acc ++ more
  | [], acc, _ => by rw [List.append_nil]; rfl
  | p :: r, acc, h => by
    have e : mergeK acc (p :: r) = mergeK (putK acc p.1 p.2) r := rfl
    have hn : p.1 ∉ acc.map (·.1) := fun m => by
      rw [List.map_append, List.map_cons] at h
      exact (List.nodup_append.mp h).2.2 _ m _ List.mem_cons_self rfl
    rw [e, put_new hn, merge_new r _ (by rw [List.append_assoc]; exact h), List.append_assoc]
    rfl
section
variable {K : PySem.W.Frag} {H0 H : Hp} {S : List Addr} {L : List (Addr × Ent)} {I : List (V × PyData)} {Q : VK} {a p : Addr} {kvs kvs' : List (Key × V)} {z : Str} {v : V} {trs : List (TE × TE)} {σ : L2.St}
theorem h_dget (n : Nat) (h : Led K H0 S H L I) (e : L[n]? = some (a, .raw (.dK kvs))) (hl : valV kvs (.inr z) = some v) (k : Q v H) : dgetK (.ref a) (.str z) H Q :=
  ⟨a, v, rfl, by rw [← hl]; exact DGet.k (k := .inr z) (h.raw n e), k⟩
theorem h_dput {Q : Hp → Prop} (n : Nat) (h : Led K H0 S H L I) (e : L[n]? = some (a, .raw (.dK kvs))) (hs : H0 a = none ∨ a ∈ S) (hz : kvs.length < sizeLine) (hp : putK kvs (.inr z) v = kvs') (k : ∀ H', Led K H0 S H' (L.set n (a, .raw (.dK kvs'))) I → Q H') : rSetD (.ref a) (.str z) v H Q :=
  ⟨a, _, rfl, DPut.k (k := .inr z) (h.raw n e) hz, by
    rw [hp]
    exact k _ (h.wr n e (fun b o q hb => by rw [upd_ne (by simpa using hb)]; exact q) (h.raw n e) rfl upd_same hs)⟩
theorem h_disp (h : Led K H0 S H L I) (k : ∀ p H', (H0 p = none ∨ p ∈ S) → Led K H0 S H' ((p, .raw (.dK [])) :: L) I → tPairs trs σ H' fun ps H2 => H2 p = some (.dK []) ∧ ∃ kvs : List (Key × V), ps = kvs.map (fun kv => (kV kv.1, kv.2)) ∧ kvs.length ≤ 15 ∧ Q (.ref p) (upd H2 p (.dK (mergeK [] kvs)))) : tDisp trs σ H Q :=
  fun p hp => k p _ (h.fr hp) (h.alloc hp)
theorem h_dispEnd (n : Nat) (h : Led K H0 S H L I) (e : L[n]? = some (p, .raw (.dK []))) (hs : H0 p = none ∨ p ∈ S) {ps : List (V × V)} (kvs : List (Key × V)) (e2 : ps = kvs.map fun kv => (kV kv.1, kv.2)) (hn : (kvs.map (·.1)).Nodup) (hl : kvs.length ≤ 15)
    (k : ∀ H', Led K H0 S H' (L.set n (p, .raw (.dK kvs))) I → Q (.ref p) H') : H p = some (.dK []) ∧ ∃ kvs : List (Key × V), ps = kvs.map (fun kv => (kV kv.1, kv.2)) ∧ kvs.length ≤ 15 ∧ Q (.ref p) (upd H p (.dK (mergeK [] kvs))) :=
  ⟨h.raw n e, kvs, e2, hl, by
    rw [merge_new kvs [] (by rw [List.nil_append]; exact hn), List.nil_append]
    exact k _ (h.wr n e (fun b o q hb => by rw [upd_ne (by simpa using hb)]; exact q) (h.raw n e) rfl upd_same hs)⟩
end
/-! ### the law's own work -/
def lw_K (kd sv tv vv rw at' f s : V) : List (Key × V) := [(.inr "kind", kd), (.inr "source", sv), (.inr "target", tv), (.inr "value", vv), (.inr "rows", rw), (.inr "at", at'), (.inr "first", f), (.inr "second", s)]
section
variable {kd sv tv vv rw at' f s v : V}
theorem dk_kind : valV (lw_K kd sv tv vv rw at' f s) (.inr "kind") = some kd := valV_pos rfl
theorem dk_source : valV (lw_K kd sv tv vv rw at' f s) (.inr "source") = some sv := (valV_neg (kne (by decide +kernel))).trans (valV_pos rfl)
theorem dk_target : valV (lw_K kd sv tv vv rw at' f s) (.inr "target") = some tv := (valV_neg (kne (by decide +kernel))).trans ((valV_neg (kne (by decide +kernel))).trans (valV_pos rfl))
theorem dk_value : valV (lw_K kd sv tv vv rw at' f s) (.inr "value") = some vv := (valV_neg (kne (by decide +kernel))).trans ((valV_neg (kne (by decide +kernel))).trans ((valV_neg (kne (by decide +kernel))).trans (valV_pos rfl)))
theorem dk_rows : valV (lw_K kd sv tv vv rw at' f s) (.inr "rows") = some rw := (valV_neg (kne (by decide +kernel))).trans ((valV_neg (kne (by decide +kernel))).trans ((valV_neg (kne (by decide +kernel))).trans ((valV_neg (kne (by decide +kernel))).trans (valV_pos rfl))))
theorem dk_at : valV (lw_K kd sv tv vv rw at' f s) (.inr "at") = some at' := (valV_neg (kne (by decide +kernel))).trans ((valV_neg (kne (by decide +kernel))).trans ((valV_neg (kne (by decide +kernel))).trans ((valV_neg (kne (by decide +kernel))).trans ((valV_neg (kne (by decide +kernel))).trans (valV_pos rfl)))))
theorem dk_first : valV (lw_K kd sv tv vv rw at' f s) (.inr "first") = some f := (valV_neg (kne (by decide +kernel))).trans ((valV_neg (kne (by decide +kernel))).trans ((valV_neg (kne (by decide +kernel))).trans ((valV_neg (kne (by decide +kernel))).trans ((valV_neg (kne (by decide +kernel))).trans ((valV_neg (kne (by decide +kernel))).trans (valV_pos rfl))))))
theorem dk_second : valV (lw_K kd sv tv vv rw at' f s) (.inr "second") = some s := (valV_neg (kne (by decide +kernel))).trans ((valV_neg (kne (by decide +kernel))).trans ((valV_neg (kne (by decide +kernel))).trans ((valV_neg (kne (by decide +kernel))).trans ((valV_neg (kne (by decide +kernel))).trans ((valV_neg (kne (by decide +kernel))).trans ((valV_neg (kne (by decide +kernel))).trans (valV_pos rfl)))))))
theorem dk_put : putK (lw_K kd sv tv vv rw at' f s) (.inr "at") v = lw_K kd sv tv vv rw v f s := by
  have n1 : ¬ (Sum.inr "kind" : Key) = .inr "at" := kne (by decide +kernel)
  have n2 : ¬ (Sum.inr "source" : Key) = .inr "at" := kne (by decide +kernel)
  have n3 : ¬ (Sum.inr "target" : Key) = .inr "at" := kne (by decide +kernel)
  have n4 : ¬ (Sum.inr "value" : Key) = .inr "at" := kne (by decide +kernel)
  have n5 : ¬ (Sum.inr "rows" : Key) = .inr "at" := kne (by decide +kernel)
  have n6 : ¬ (Sum.inr "first" : Key) = .inr "at" := kne (by decide +kernel)
  have n7 : ¬ (Sum.inr "second" : Key) = .inr "at" := kne (by decide +kernel)
  unfold putK lw_K
  rw [if_pos]
  · simp only [List.map_cons, List.map_nil, if_neg n1, if_neg n2, if_neg n3, if_neg n4, if_neg n5, if_neg n6, if_neg n7, if_true]
  · rw [List.any_eq_true]
    exact ⟨(.inr "at", at'), by simp, decide_eq_true rfl⟩
theorem dk_nodup : ((lw_K kd sv tv vv rw at' f s).map (·.1)).Nodup := by
  show ([.inr "kind", .inr "source", .inr "target", .inr "value", .inr "rows", .inr "at", .inr "first", .inr "second"] : List Key).Nodup
  decide +kernel
end

abbrev Rw := List (Addr × Str × Nat)
def rowE (rs : Rw) : List (Addr × Ent) := rs.map fun r => (r.1, .raw (.lst [.str r.2.1, .int r.2.2]))
def rowV (rs : Rw) : List V := rs.map fun r => .ref r.1
def lwA (p rp f s2 : Addr) (sv tv : V) (c : Cf) (st : Ws) (rs : Rw) : List (Addr × Ent) :=
  [(p, .raw (.dK (lw_K (.str c.kind) sv tv (oI c.val) (.ref rp) (.int st.done) (.ref f) (.ref s2)))), (rp, .raw (.lst (rowV rs))), (f, .raw (.lst (st.sb.map V.int))), (s2, .raw (.lst (st.tb.map V.int)))]
namespace Cf
def rows (c : Cf) : List (Str × Nat) := (List.range c.srd).map (fun k => (("first" : Str), k)) ++ (List.range c.trd).map (fun k => (("second" : Str), k)) ++ (List.range c.wrs).map (fun k => (("write" : Str), k))
def resS (c : Cf) (st : Ws) : Option Int := match c.src with | none => none | some x => some (c.resOf (rd5 x st.sb))
def numS (c : Cf) (st : Ws) : Int := match c with | set _ v => v | exch _ v => v | _ => (c.resS st).getD 0
def toldS (c : Cf) (st : Ws) : Option Int := if c.isSet = true then none else c.resS st
structure Inv2 (c : Cf) (st : Ws) : Prop where
  res : c.srd ≤ st.done → st.res = c.resS st
  nw : c.rds < st.done → st.nw = c.mk st
end Cf
theorem resS_some {c : Cf} {x : S5} {st : Ws} (h : c.src = some x) : c.resS st = some (c.resOf (rd5 x st.sb)) := by
  unfold Cf.resS
  rw [h]
theorem resS_cong {c : Cf} {s t : Ws} (h : s.sb = t.sb) : c.resS s = c.resS t := by
  unfold Cf.resS
  rw [h]
theorem inv2_start (c : Cf) (ok : c.Ok) : c.Inv2 Ws.start := ⟨fun h => by
  cases hs : c.src with
  | none =>
    unfold Cf.resS
    rw [hs]
    rfl
  | some x =>
    rw [srd_is hs] at h
    have := (ok.s x hs).n0
    exact absurd h (by show ¬ x.n ≤ 0; omega), fun h => absurd h (Nat.not_lt_zero _)⟩
theorem step_inv2 {c : Cf} {st : Ws} {D : List Int} {so to : Option Nat} (i1 : c.Inv st) (i2 : c.Inv2 st) (hlt : st.done < c.tot) : c.Inv2 (c.step st D so to).1 := by
  obtain ⟨hres, hnw⟩ := i2
  have e2 : c.rds = c.srd + c.trd := rfl
  unfold Cf.step
  by_cases h1 : st.done < c.srd
  · rw [if_pos h1]
    obtain ⟨x, hx⟩ := src_get (c := c) (by omega)
    have gx : c.src.getD c.wri = x := by rw [hx]; rfl
    have done' : (c.stS st D so).done = st.done + 1 := rfl
    by_cases h2 : st.done + 1 = c.srd
    · rw [if_pos h2]
      dsimp only
      have key : c.Inv2 (c.stR (c.stS st D so)) := by
        refine ⟨fun _ => ?_, fun q => ?_⟩
        · rw [resS_some hx]
          show some (c.resOf (rd5 (c.src.getD c.wri) (c.stS st D so).sb)) = _
          rw [gx]
          rfl
        · have q : c.rds < st.done + 1 := q
          omega
      split <;> exact key
    · rw [if_neg h2]
      refine ⟨fun q => ?_, fun q => ?_⟩
      · have q : c.srd ≤ st.done + 1 := q
        omega
      · have q : c.rds < st.done + 1 := q
        omega
  · rw [if_neg h1]
    by_cases h2 : st.done < c.rds
    · rw [if_pos h2]
      refine ⟨fun _ => (hres (by omega)).trans (resS_cong rfl), fun q => ?_⟩
      have q : c.rds < st.done + 1 := q
      omega
    · rw [if_neg h2]
      unfold Cf.stN
      split
      · exact ⟨fun _ => (hres (by omega)).trans (resS_cong rfl), fun _ => mk_cong rfl rfl rfl⟩
      · exact ⟨fun _ => (hres (by omega)).trans (resS_cong rfl), fun _ => (hnw (by omega)).trans (mk_cong rfl rfl rfl)⟩
theorem rows_len (c : Cf) : c.rows.length = c.tot := by
  unfold Cf.rows Cf.tot Cf.rds
  rw [List.length_append, List.length_append, List.length_map, List.length_map, List.length_map, List.length_range, List.length_range, List.length_range]
theorem rows_at {c : Cf} {i : Nat} (h : i < c.tot) : c.rows[i]? = some (if i < c.srd then (("first" : Str), i) else if i < c.rds then (("second" : Str), i - c.srd) else (("write" : Str), i - c.rds)) := by
  have e1 : c.tot = c.srd + c.trd + c.wrs := rfl
  have e2 : c.rds = c.srd + c.trd := rfl
  unfold Cf.rows
  by_cases h1 : i < c.srd
  · rw [if_pos h1, List.append_assoc, List.getElem?_append_left (by rw [List.length_map, List.length_range]; exact h1), List.getElem?_map, List.getElem?_range h1]
    rfl
  · rw [if_neg h1]
    by_cases h2 : i < c.rds
    · rw [if_pos h2, List.append_assoc, List.getElem?_append_right (by rw [List.length_map, List.length_range]; omega), List.length_map, List.length_range, List.getElem?_append_left (by rw [List.length_map, List.length_range]; omega), List.getElem?_map, List.getElem?_range (by omega)]
      rfl
    · rw [if_neg h2, List.getElem?_append_right (by rw [List.length_append, List.length_map, List.length_map, List.length_range, List.length_range]; omega), List.length_append, List.length_map, List.length_map, List.length_range, List.length_range, List.getElem?_map, List.getElem?_range (by omega), e2]
      rfl
/-! ### the promises -/
def sp__law_whole (K : PySem.W.Frag) (A : Ad) : Sp := fun vs H Q _ => ∃ (a : Addr) (x : S5), vs = [.ref a] ∧ Im K H (.ref a) (d5 x) ∧ Q (.bl x.whole) H
def sp__law_begun (K : PySem.W.Frag) (A : Ad) : Sp := fun vs H Q _ => ∃ (c : Cf) (sv tv : V), vs = [.str c.kind, sv, tv, oI c.val] ∧ Im K H sv (oD c.src) ∧ Im K H tv (oD c.tgt) ∧ c.Ok ∧
  ∀ p rp f s2 rs H', rs.map (·.2) = c.rows → H p = none → H rp = none → H f = none → H s2 = none → (∀ r ∈ rs, H r.1 = none) → Led K H [] H' (lwA p rp f s2 sv tv c Ws.start rs ++ rowE rs) (wkI sv tv c) → Q (.ref p) H'
def sp__law_result (K : PySem.W.Frag) (A : Ad) : Sp := fun vs H Q _ => ∃ (p rp f s2 : Addr) (sv tv : V) (c : Cf) (st : Ws) (rs : Rw), vs = [.ref p] ∧ Led K H [] H (lwA p rp f s2 sv tv c st rs) (wkI sv tv c) ∧ c.Ok ∧ st.sb.length = c.srd ∧
  ∀ q H', H q = none → Same H H' → H' q = some (.lst [if c.isGet = true then .non else .int (c.numS st), oI (c.toldS st)]) → Q (.ref q) H'
def sp__law_step (K : PySem.W.Frag) (A : Ad) : Sp := fun vs H Q _ => ∃ (p rp f s2 d : Addr) (sv tv : V) (c : Cf) (st : Ws) (rs : Rw) (D : List Int) (so to : Nat), vs = [.ref p, .ref d, .int so, .int to] ∧
  Led K H [p, f, s2, d] H (lwA p rp f s2 sv tv c st rs ++ (d, .raw (.lst (D.map V.int))) :: rowE rs) (wkI sv tv c) ∧ rs.map (·.2) = c.rows ∧ c.Ok ∧ c.Inv st ∧ c.Inv2 st ∧ st.done < c.tot ∧ c.Fit D.length (plc c.src so) (plc c.tgt to) ∧
  ∀ q H', Led K H [p, f, s2, d] H' (lwA p rp f s2 sv tv c (c.step st D (plc c.src so) (plc c.tgt to)).1 rs ++ (d, .raw (.lst ((c.step st D (plc c.src so) (plc c.tgt to)).2.1.map V.int))) :: rowE rs) ((.ref q, .tuple (oT (c.step st D (plc c.src so) (plc c.tgt to)).2.2)) :: wkI sv tv c) → Q (.ref q) H'
theorem kd_sc2 (c : Cf) : inV (.str c.kind) [.str "set", .str "copy"] = !c.tgt.isNone := kd_sc c
def Cf.rdS (c : Cf) (st : Ws) : Int := match c.src with | none => 0 | some x => rd5 x st.sb
theorem at_none {x : V} (b : Bool) : atI [.non, x] (if b = true then 1 else 0) = some (if b = true then x else .non) := by cases b <;> rfl
section
variable {K : PySem.W.Frag} {A : Ad} {H0 H : Hp} {S : List Addr} {X : List (Addr × Ent)} {I : List (V × PyData)} {Q : VK} {E : XK} {p rp f s2 d a : Addr} {sv tv : V} {c : Cf} {st : Ws} {rs : Rw} {D : List Int} {so to : Nat} {x : S5}
theorem wkI_im (i1 : Im K H sv (oD c.src)) (i2 : Im K H tv (oD c.tgt)) : ∀ (n : Nat) v d', (wkI sv tv c)[n]? = some (v, d') → Im K H v d' := fun n v d' e => by
  match n, e with
  | 0, e =>
    cases e
    exact i1
  | 1, e =>
    cases e
    exact i2
theorem h_lwhole (h : Im K H (.ref a) (d5 x)) (k : Q (.bl x.whole) H) : sp__law_whole K A [.ref a] H Q E := ⟨a, x, rfl, h, k⟩
theorem h_begun (h : Led K H0 S H X I) (i1 : Im K H sv (oD c.src)) (i2 : Im K H tv (oD c.tgt)) (ok : c.Ok)
    (k : ∀ p rp f s2 rs H', rs.map (·.2) = c.rows → (H0 p = none ∨ p ∈ S) → (H0 rp = none ∨ rp ∈ S) → (H0 f = none ∨ f ∈ S) → (H0 s2 = none ∨ s2 ∈ S) → Led K H0 S H' ((lwA p rp f s2 sv tv c Ws.start rs ++ rowE rs) ++ X) I → Q (.ref p) H') : sp__law_begun K A [.str c.kind, sv, tv, oI c.val] H Q E := by
  have h0 : Led K H0 S H ([] ++ X) I := h
  refine ⟨c, sv, tv, rfl, i1, i2, ok, fun p rp f s2 rs H' hr n1 n2 n3 n4 n5 h2 => ?_⟩
  have r := h0.backA [] h2 (fun b hb => (nomatch hb)) (fun e he => .inr ?_) (fun b hb => by simp [adr] at hb)
  · exact k p rp f s2 rs H' hr (h.fr n1) (h.fr n2) (h.fr n3) (h.fr n4) r.iR
  · rcases List.mem_append.mp he with he | he
    · simp only [lwA, List.mem_cons, List.not_mem_nil, or_false] at he
      rcases he with rfl | rfl | rfl | rfl
      · exact n1
      · exact n2
      · exact n3
      · exact n4
    · obtain ⟨y, hy, rfl⟩ := List.mem_map.mp he
      exact n5 y hy
theorem h_result (h : Led K H0 S H (lwA p rp f s2 sv tv c st rs ++ X) I) (i1 : Im K H sv (oD c.src)) (i2 : Im K H tv (oD c.tgt)) (ok : c.Ok) (hl : st.sb.length = c.srd)
    (k : ∀ q H', (H0 q = none ∨ q ∈ S) → Led K H0 S H' ((q, .raw (.lst [if c.isGet = true then .non else .int (c.numS st), oI (c.toldS st)])) :: (lwA p rp f s2 sv tv c st rs ++ X)) I → Q (.ref q) H') : sp__law_result K A [.ref p] H Q E :=
  ⟨p, rp, f, s2, sv, tv, c, st, rs, rfl, h.pre _ _ (wkI_im i1 i2), ok, hl, fun q H' nq s e => k q H' (h.fr nq) (h.new s nq e)⟩
theorem h_lstep (h : Led K H0 S H ((lwA p rp f s2 sv tv c st rs ++ (d, .raw (.lst (D.map V.int))) :: rowE rs) ++ X) I) (i1 : Im K H sv (oD c.src)) (i2 : Im K H tv (oD c.tgt)) (hr : rs.map (·.2) = c.rows) (ok : c.Ok) (inv : c.Inv st) (inv2 : c.Inv2 st) (hlt : st.done < c.tot) (fit : c.Fit D.length (plc c.src so) (plc c.tgt to))
    (hp : H0 p = none ∨ p ∈ S) (hf : H0 f = none ∨ f ∈ S) (hs : H0 s2 = none ∨ s2 ∈ S) (hd : H0 d = none ∨ d ∈ S)
    (k : ∀ q H', Led K H0 S H' ((lwA p rp f s2 sv tv c (c.step st D (plc c.src so) (plc c.tgt to)).1 rs ++ (d, .raw (.lst ((c.step st D (plc c.src so) (plc c.tgt to)).2.1.map V.int))) :: rowE rs) ++ X) ((.ref q, .tuple (oT (c.step st D (plc c.src so) (plc c.tgt to)).2.2)) :: I) → Q (.ref q) H') : sp__law_step K A [.ref p, .ref d, .int so, .int to] H Q E := by
  refine ⟨p, rp, f, s2, d, sv, tv, c, st, rs, D, so, to, rfl, h.pre _ _ (wkI_im i1 i2), hr, ok, inv, inv2, hlt, fit, fun q H' h2 => ?_⟩
  have r := h.backA [0, 2, 3, 4] h2 (fun b hb => by simpa [adr, lwA] using hb) (fun e he => .inl ?_) (fun b hb => ?_) ?_ ?_
  · exact k q H' (r.iR.imNew (r.im 0 _ _ rfl))
  · rcases List.mem_append.mp he with he | he
    · simp only [lwA, List.mem_cons, List.not_mem_nil, or_false] at he
      simp only [lwA, List.cons_append, List.nil_append, List.map_cons, List.mem_cons]
      rcases he with rfl | rfl | rfl | rfl <;> simp
    · simp only [lwA, List.cons_append, List.nil_append, List.map_cons, List.mem_cons]
      rcases List.mem_cons.mp he with rfl | he
      · simp
      · exact .inr (.inr (.inr (.inr (.inr (List.mem_map.mpr ⟨e, he, rfl⟩)))))
  · have hb : b = p ∨ b = f ∨ b = s2 ∨ b = d := by simpa [adr, lwA] using hb
    rcases hb with rfl | rfl | rfl | rfl
    · exact hp
    · exact hf
    · exact hs
    · exact hd
  · simp [lwA]
  · simp [lwA, entMut, isMut]
end

section
variable {K : PySem.W.Frag} {H0 H : Hp} {S : List Addr} {I : List (V × PyData)} {L A T : List (Addr × Ent)}
theorem Led.memL (h : Led K H0 S H L I) {L' : List (Addr × Ent)} (hn : (L'.map (·.1)).Nodup) (hm : ∀ e ∈ L', e ∈ L) : Led K H0 S H L' I :=
  ⟨hn, fun n a e q => by
    obtain ⟨i, hi, hi2⟩ := List.getElem_of_mem (hm (a, e) (List.mem_of_getElem? q))
    exact h.at_ i a e (by rw [List.getElem?_eq_getElem hi, hi2]), h.im, h.kp⟩
theorem Led.perm (h : Led K H0 S H L I) {L' : List (Addr × Ent)} (p : L.Perm L') : Led K H0 S H L' I :=
  h.memL ((p.map _).nodup_iff.mp h.nd) fun e he => p.mem_iff.mpr he
theorem Led.pickT (h : Led K H0 S H (A ++ T) I) (f : List Nat) (hf : f.Nodup := by decide) (hb : (f.all fun n => decide (n < A.length)) = true := by rfl) : Led K H0 S H (pickL f A ++ T) I := by
  have hb' : ∀ n ∈ f, n < A.length := fun n hn => of_decide_eq_true (List.all_eq_true.mp hb n hn)
  have mem : ∀ e ∈ pickL f A, e ∈ A := fun e he => by
    obtain ⟨n, hn, rfl⟩ := List.mem_map.mp he
    rw [List.getElem?_eq_getElem (hb' n hn)]
    exact List.getElem_mem _
  refine h.memL ?_ fun e he => ?_
  · have q := h.nd
    rw [List.map_append] at q ⊢
    obtain ⟨q1, q2, q3⟩ := List.nodup_append.mp q
    refine List.nodup_append.mpr ⟨((h.pre [] [] fun n v d z => by simp at z).pick f hf hb).nd, q2, fun a ha b hb2 => ?_⟩
    obtain ⟨e, he, rfl⟩ := List.mem_map.mp ha
    exact q3 _ (List.mem_map.mpr ⟨e, mem e he, rfl⟩) b hb2
  · rcases List.mem_append.mp he with he | he
    · exact List.mem_append_left _ (mem e he)
    · exact List.mem_append_right _ he
end
theorem rowE_app (a b : Rw) : rowE (a ++ b) = rowE a ++ rowE b := List.map_append
theorem rowV_app (a b : Rw) : rowV (a ++ b) = rowV a ++ rowV b := List.map_append
/-- one more row -/
theorem row_snoc {K : PySem.W.Frag} {H0 H : Hp} {S : List Addr} {I : List (V × PyData)} {q r w : Addr} {er ew : Ent} {rs rs' : Rw} {x : Str} {k : Nat} (h : Led K H0 S H ((q, .raw (.lst [.str x, .int k])) :: (r, er) :: (w, ew) :: (rowE rs' ++ rowE rs)) I) :
    Led K H0 S H ((r, er) :: (w, ew) :: (rowE (rs' ++ [(q, x, k)]) ++ rowE rs)) I := by
  refine h.perm ?_
  rw [rowE_app, List.append_assoc]
  show List.Perm _ ((r, er) :: (w, ew) :: (rowE rs' ++ (q, .raw (.lst [.str x, .int k])) :: rowE rs))
  refine ((List.Perm.swap _ _ _).trans ((List.Perm.swap _ _ _).cons _)).trans (((List.perm_middle).symm.cons _).cons _)
theorem row_join {K : PySem.W.Frag} {H0 H : Hp} {S : List Addr} {I : List (V × PyData)} {q r w : Addr} {eq er ew : Ent} {rs rs' : Rw} (h : Led K H0 S H ((q, eq) :: (r, er) :: (w, ew) :: (rowE rs' ++ rowE rs)) I) : Led K H0 S H ((q, eq) :: rowE (rs ++ rs')) I := by
  have h1 : Led K H0 S H ((q, eq) :: (rowE rs' ++ rowE rs)) I := (show Led K H0 S H ([(q, eq), (r, er), (w, ew)] ++ (rowE rs' ++ rowE rs)) I from h).pickT [0]
  refine h1.perm ?_
  rw [rowE_app]
  exact List.perm_append_comm.cons _
theorem srd_le {c : Cf} (ok : c.Ok) : c.srd ≤ 4 ∧ c.trd ≤ 4 ∧ c.wrs ≤ 4 := by
  cases c with
  | get s => exact ⟨(ok.s s rfl).n4, Nat.zero_le 4, Nat.zero_le 4⟩
  | set t v => exact ⟨Nat.zero_le 4, Nat.le_trans (trd_le (c := .set t v) rfl) (ok.t t rfl).n4, (ok.t t rfl).n4⟩
  | add s v => exact ⟨(ok.s s rfl).n4, Nat.zero_le 4, (ok.s s rfl).n4⟩
  | exch s v => exact ⟨(ok.s s rfl).n4, Nat.zero_le 4, (ok.s s rfl).n4⟩
  | copy s t => exact ⟨(ok.s s rfl).n4, Nat.le_trans (trd_le (c := .copy s t) rfl) (ok.t t rfl).n4, (ok.t t rfl).n4⟩

section
variable {c : Cf} {st : Ws} {D : List Int} {so to : Option Nat}
theorem step_mid (h1 : st.done < c.srd) (h2 : ¬ st.done + 1 = c.srd) : c.step st D so to = (c.stS st D so, D, c.told (c.stS st D so)) := by
  unfold Cf.step
  rw [if_pos h1, if_neg h2]
theorem step_end (h1 : st.done < c.srd) (h2 : st.done + 1 = c.srd) (h3 : ¬ (c.chk = true ∧ ¬ c.wri.inB (c.resOf (rd5 (c.src.getD c.wri) (c.stS st D so).sb)))) : c.step st D so to = (c.stR (c.stS st D so), D, c.told (c.stR (c.stS st D so))) := by
  unfold Cf.step
  rw [if_pos h1, if_pos h2]
  dsimp only
  rw [if_neg h3]
theorem step_bad (h1 : st.done < c.srd) (h2 : st.done + 1 = c.srd) (h3 : c.chk = true ∧ ¬ c.wri.inB (c.resOf (rd5 (c.src.getD c.wri) (c.stS st D so).sb))) : c.step st D so to = (c.stR (c.stS st D so), D, .range) := by
  unfold Cf.step
  rw [if_pos h1, if_pos h2]
  dsimp only
  rw [if_pos h3]
theorem step_sec (h1 : ¬ st.done < c.srd) (h2 : st.done < c.rds) : c.step st D so to = (c.stT st D to, D, c.told (c.stT st D to)) := by
  unfold Cf.step
  rw [if_neg h1, if_pos h2]
theorem step_wr (h1 : ¬ st.done < c.srd) (h2 : ¬ st.done < c.rds) : c.step st D so to = (c.stN st, c.ptN st D so to, c.told (c.stN st)) := by
  unfold Cf.step
  rw [if_neg h1, if_neg h2]
theorem numS_mk (ok : c.Ok) (hg : c.isGet = false) (i2 : c.Inv2 st) (h : c.srd ≤ st.done) : c.mk st = wr5 c.wri (c.base st) (c.numS st) := by
  have e := i2.res h
  unfold Cf.mk
  cases c with
  | get s => exact nomatch hg
  | set t v => rfl
  | exch s v => rfl
  | add s v =>
    show wr5 s _ (st.res.getD 0) = wr5 s _ (((Cf.add s v).resS st).getD 0)
    rw [e]
  | copy s t =>
    show wr5 t _ (st.res.getD 0) = wr5 t _ (((Cf.copy s t).resS st).getD 0)
    rw [e]
theorem stN_nw (i2 : c.Inv2 st) (h : c.rds ≤ st.done) : (c.stN st).nw = c.mk st := by
  unfold Cf.stN
  by_cases h3 : st.done = c.rds
  · rw [if_pos h3]
  · rw [if_neg h3]
    exact i2.nw (by omega)
theorem stN_lw {p rp f s2 : Addr} {sv tv : V} {rs : Rw} : lwA p rp f s2 sv tv c (c.stN st) rs = lwA p rp f s2 sv tv c { st with done := st.done + 1 } rs := by
  unfold Cf.stN
  split <;> rfl
end
theorem chk_num {c : Cf} {st : Ws} {x : S5} (h : c.chk = true) (hx : c.src = some x) : c.numS st = c.resOf (rd5 x st.sb) := by
  cases c with
  | add s v => cases hx; rfl
  | copy s t => cases hx; rfl
  | get s => exact nomatch h
  | set t v => exact nomatch h
  | exch s v => exact nomatch h

theorem byt_set {D : List Int} {i : Nat} {x : Int} (h : Byt D) (h0 : 0 ≤ x) (h1 : x < 256) : Byt (D.set i x) := fun b hb => by
  rcases List.mem_or_eq_of_mem_set hb with hb | hb
  · exact h b hb
  · subst hb
    exact ⟨h0, h1⟩
theorem byt_getD {D : List Int} {k : Nat} (h : Byt D) : 0 ≤ D.getD k 0 ∧ D.getD k 0 < 256 := by
  rw [List.getD_eq_getElem?_getD]
  cases hk : D[k]? with
  | none => exact ⟨Int.le_refl _, by decide⟩
  | some x => exact h x (List.mem_of_getElem? hk)
theorem step_byt {c : Cf} {st : Ws} {D : List Int} {so to : Option Nat} (ok : c.Ok) (inv : c.Inv st) (i2 : c.Inv2 st) (hlt : st.done < c.tot) (hb : Byt D) : Byt (c.step st D so to).2.1 := by
  have e1 : c.tot = c.srd + c.trd + c.wrs := rfl
  have e2 : c.rds = c.srd + c.trd := rfl
  unfold Cf.step
  split
  · split
    · dsimp only
      split <;> exact hb
    · exact hb
  · split
    · exact hb
    · obtain ⟨hg, _⟩ := wrs_get (c := c) (by omega)
      have bl := base_len (st := st) ok hg (by rw [inv.sb]; omega) (by rw [inv.tb]; omega)
      show Byt (D.set _ ((c.stN st).nw.getD _ 0))
      rw [stN_nw i2 (by omega)]
      have bm : Byt (c.mk st) := wr5_byt bl
      exact byt_set hb (byt_getD bm).1 (byt_getD bm).2
theorem shw_rng1 : shw 1 1202 (.tuple [.str "range"]) := (shw_tup (n := 0) (W := 600) fun x hx => by cases List.mem_singleton.mp hx; exact shw_range).up (by decide) (by decide)
theorem shw_told {c : Cf} {st : Ws} (ok : c.Ok) (inv : c.Inv st) (i2 : c.Inv2 st) : shw 1 1202 (.tuple (oT (c.told st))) := by
  have e1 : c.tot = c.srd + c.trd + c.wrs := rfl
  unfold Cf.told
  split
  · exact shw_going1.up (by decide) (by decide)
  · rename_i hn
    rw [oT_done]
    refine shw_dn fun i hi => ?_
    have hr := inv.res
    have h2 := i2.res (by omega)
    cases c with
    | get s =>
      have hi : st.res = some i := hi
      rw [h2] at hi
      cases (show some (rd5 s st.sb) = some i from hi)
      have := rd5_rng (ds := st.sb) (ok.s s rfl)
      omega
    | set t v => exact nomatch (show none = some i from hi)
    | add s v =>
      obtain ⟨r, hr1, hr2⟩ := hr (ok.s s rfl).n0 (by omega)
      have hi : st.res = some i := hi
      rw [hr1] at hi
      cases hi
      have := inB_rng (ok.s s rfl) (hr2 rfl)
      omega
    | exch s v =>
      have hi : st.res = some i := hi
      rw [h2] at hi
      cases (show some (rd5 s st.sb) = some i from hi)
      have := rd5_rng (ds := st.sb) (ok.s s rfl)
      omega
    | copy s t =>
      obtain ⟨r, hr1, hr2⟩ := hr (ok.s s rfl).n0 (by omega)
      have hi : st.res = some i := hi
      rw [hr1] at hi
      cases hi
      have := inB_rng (ok.t t rfl) (hr2 rfl)
      omega
theorem Led.hd {K : PySem.W.Frag} {H0 H : Hp} {S : List Addr} {I : List (V × PyData)} {A T : List (Addr × Ent)} (h : Led K H0 S H (A ++ T) I) : Led K H0 S H A I :=
  h.memL (by have q := h.nd; rw [List.map_append] at q; exact (List.nodup_append.mp q).1) fun e he => List.mem_append_left _ he
theorem set_getD {D : List Int} {i : Nat} {x : Int} (h : i < D.length) : (D.set i x).getD i 0 = x := by
  rw [List.getD_eq_getElem?_getD, List.getElem?_set, if_pos rfl, if_pos h]
  rfl

local macro_rules | `(tactic| walk_at "im") => `(tactic| (first | apply Im.int | apply Im.str | apply Im.bl | apply Im.non | assumption | (apply h_imm 0; (case h => assumption); (case e => with_unfolding_all rfl)) | (apply h_imm 1; (case h => assumption); (case e => with_unfolding_all rfl)) | (apply h_imm 2; (case h => assumption); (case e => with_unfolding_all rfl)) | (apply h_imm 3; (case h => assumption); (case e => with_unfolding_all rfl)) | (apply h_imm 4; (case h => assumption); (case e => with_unfolding_all rfl)) | (apply h_imm 5; (case h => assumption); (case e => with_unfolding_all rfl))))
local macro_rules | `(tactic| walk_at "ims") => `(tactic| repeat (first | apply Ims.nil | (apply Ims.cons; (focus (first | apply Im.int | apply Im.str | apply Im.bl | apply Im.non | assumption | (apply h_imm 0; (case h => assumption); (case e => with_unfolding_all rfl)) | (apply h_imm 1; (case h => assumption); (case e => with_unfolding_all rfl)) | (apply h_imm 2; (case h => assumption); (case e => with_unfolding_all rfl)) | (apply h_imm 3; (case h => assumption); (case e => with_unfolding_all rfl)) | (apply h_imm 4; (case h => assumption); (case e => with_unfolding_all rfl)) | (apply h_imm 5; (case h => assumption); (case e => with_unfolding_all rfl)))))))
local macro_rules | `(tactic| walk_at "sz") => `(tactic| (rw [sizeLine_eq]; ((try simp only [List.length_append, List.length_cons, List.length_nil, List.length_map, List.length_replicate, List.length_set, List.length_take, List.length_drop]) <;> omega)))
local macro_rules | `(tactic| walk_at "fr") => `(tactic| (first | assumption | (apply Or.inl; assumption) | (apply Or.inr; simp)))
local macro_rules | `(tactic| walk_at "ds") => `(tactic| dsimp only [a_lk0, a_lk1, a_lkS, a_V, a_vl, a_c, a_op, a_un, a_test, a_toB, a_tr, a_trB, a_trI, a_trN, a_and, a_or, a_not, a_andV, a_orV, a_notV, a_ifE, a_nil, a_cons, a_lst, a_tup, a_call, a_CB, a_BM, a_BM0, a_sl, a_part, a_partI, a_noPart, a_seq, a_next, a_brk, a_cont, a_asg, a_name, a_drop, a_ret, a_retN, a_if, a_aug, a_for, a_lc, a_jR1, a_jR2, a_jL, a_jT, a_rg1, a_rg2, a_gsub, a_yes, a_addI, a_addS, a_addR, a_iaddI, a_iaddS, a_sub, a_mulI, a_mulR, a_fdiv, a_mod, a_pow, a_shl, a_shr, a_lt, a_le, a_gt, a_ge, a_neg, a_EqI, a_EqS, a_EqB, a_EqNN, a_EqIN, a_EqNI, a_EqSN, a_EqNS, a_EqRR, a_EqRN, a_EqNR, a_NeI, a_NeS, a_NeB, a_NeNN, a_NeIN, a_NeNI, a_NeSN, a_NeNS, a_NeRR, a_NeRN, a_NeNR, a_isNN, a_isNI, a_isNS, a_isNB, a_isNR, a_notNN, a_notNI, a_notNS, a_notNB, a_notNR, a_intI, a_intB, a_abs, a_gnil, a_gcons, a_callS, a_raise0, a_tryAs, a_tryOnly, a_rev, a_jR3, a_fld, a_sfld, a_meth, a_methE, a_make, a_sfldaug, a_chain, a_dget, a_pnil, a_pcons, wipe, List.set, List.nil_append, List.cons_append])
local macro_rules | `(tactic| walk_at "gs") => `(tactic| repeat (first | dsimp only [a_lk0, a_lk1, a_lkS, a_V, a_vl, a_c, a_op, a_un, a_test, a_toB, a_tr, a_trB, a_trI, a_trN, a_and, a_or, a_not, a_andV, a_orV, a_notV, a_ifE, a_nil, a_cons, a_lst, a_tup, a_call, a_CB, a_BM, a_BM0, a_sl, a_part, a_partI, a_noPart, a_seq, a_next, a_brk, a_cont, a_asg, a_name, a_drop, a_ret, a_retN, a_if, a_aug, a_for, a_lc, a_jR1, a_jR2, a_jL, a_jT, a_rg1, a_rg2, a_gsub, a_yes, a_addI, a_addS, a_addR, a_iaddI, a_iaddS, a_sub, a_mulI, a_mulR, a_fdiv, a_mod, a_pow, a_shl, a_shr, a_lt, a_le, a_gt, a_ge, a_neg, a_EqI, a_EqS, a_EqB, a_EqNN, a_EqIN, a_EqNI, a_EqSN, a_EqNS, a_EqRR, a_EqRN, a_EqNR, a_NeI, a_NeS, a_NeB, a_NeNN, a_NeIN, a_NeNI, a_NeSN, a_NeNS, a_NeRR, a_NeRN, a_NeNR, a_isNN, a_isNI, a_isNS, a_isNB, a_isNR, a_notNN, a_notNI, a_notNS, a_notNB, a_notNR, a_intI, a_intB, a_abs, a_gnil, a_gcons, a_callS, a_raise0, a_tryAs, a_tryOnly, a_rev, a_jR3, a_fld, a_sfld, a_meth, a_methE, a_make, a_sfldaug, a_chain, a_dget, a_pnil, a_pcons, wipe, List.set, List.nil_append, List.cons_append] | with_reducible (first
  | (apply h_draw 0; (case h => assumption); (case e => with_unfolding_all rfl); (case e2 => with_unfolding_all rfl); (case h0 => (first | decide | omega | (simp only [List.length_map, List.length_append, List.length_take, List.length_drop, List.length_set]; omega))); (case h1 => (first | decide | omega | (simp only [List.length_map, List.length_append, List.length_take, List.length_drop, List.length_set]; omega))); (case h2 => (first | decide | omega | (simp only [List.length_map, List.length_append, List.length_take, List.length_drop, List.length_set]; omega))); (case hs => (first | assumption | (apply Or.inl; assumption) | (apply Or.inr; simp))))
  | (apply h_draw 1; (case h => assumption); (case e => with_unfolding_all rfl); (case e2 => with_unfolding_all rfl); (case h0 => (first | decide | omega | (simp only [List.length_map, List.length_append, List.length_take, List.length_drop, List.length_set]; omega))); (case h1 => (first | decide | omega | (simp only [List.length_map, List.length_append, List.length_take, List.length_drop, List.length_set]; omega))); (case h2 => (first | decide | omega | (simp only [List.length_map, List.length_append, List.length_take, List.length_drop, List.length_set]; omega))); (case hs => (first | assumption | (apply Or.inl; assumption) | (apply Or.inr; simp))))
  | (apply h_draw 2; (case h => assumption); (case e => with_unfolding_all rfl); (case e2 => with_unfolding_all rfl); (case h0 => (first | decide | omega | (simp only [List.length_map, List.length_append, List.length_take, List.length_drop, List.length_set]; omega))); (case h1 => (first | decide | omega | (simp only [List.length_map, List.length_append, List.length_take, List.length_drop, List.length_set]; omega))); (case h2 => (first | decide | omega | (simp only [List.length_map, List.length_append, List.length_take, List.length_drop, List.length_set]; omega))); (case hs => (first | assumption | (apply Or.inl; assumption) | (apply Or.inr; simp))))
  | (apply h_draw 3; (case h => assumption); (case e => with_unfolding_all rfl); (case e2 => with_unfolding_all rfl); (case h0 => (first | decide | omega | (simp only [List.length_map, List.length_append, List.length_take, List.length_drop, List.length_set]; omega))); (case h1 => (first | decide | omega | (simp only [List.length_map, List.length_append, List.length_take, List.length_drop, List.length_set]; omega))); (case h2 => (first | decide | omega | (simp only [List.length_map, List.length_append, List.length_take, List.length_drop, List.length_set]; omega))); (case hs => (first | assumption | (apply Or.inl; assumption) | (apply Or.inr; simp))))
  | (apply h_ixL 0; (case h => assumption); (case e => with_unfolding_all rfl); (case hx => with_unfolding_all rfl))
  | (apply h_ixL 1; (case h => assumption); (case e => with_unfolding_all rfl); (case hx => with_unfolding_all rfl))
  | (apply h_ixL 2; (case h => assumption); (case e => with_unfolding_all rfl); (case hx => with_unfolding_all rfl))
  | (apply h_ixL 3; (case h => assumption); (case e => with_unfolding_all rfl); (case hx => with_unfolding_all rfl))
  | (apply h_ixL 4; (case h => assumption); (case e => with_unfolding_all rfl); (case hx => with_unfolding_all rfl))
  | (apply h_ixTv; (case hd => (first | apply Im.int | apply Im.str | apply Im.bl | apply Im.non | assumption | (apply h_imm 0; (case h => assumption); (case e => with_unfolding_all rfl)) | (apply h_imm 1; (case h => assumption); (case e => with_unfolding_all rfl)) | (apply h_imm 2; (case h => assumption); (case e => with_unfolding_all rfl)) | (apply h_imm 3; (case h => assumption); (case e => with_unfolding_all rfl)) | (apply h_imm 4; (case h => assumption); (case e => with_unfolding_all rfl)) | (apply h_imm 5; (case h => assumption); (case e => with_unfolding_all rfl)))); (case h0 => (first | decide | omega | (simp only [List.length_map, List.length_append, List.length_take, List.length_drop, List.length_set]; omega))); (case hx => with_unfolding_all rfl); (case hv => with_unfolding_all rfl))
  | (apply h_slPre; (case h => assumption); (case hd => (first | apply Im.int | apply Im.str | apply Im.bl | apply Im.non | assumption | (apply h_imm 0; (case h => assumption); (case e => with_unfolding_all rfl)) | (apply h_imm 1; (case h => assumption); (case e => with_unfolding_all rfl)) | (apply h_imm 2; (case h => assumption); (case e => with_unfolding_all rfl)) | (apply h_imm 3; (case h => assumption); (case e => with_unfolding_all rfl)) | (apply h_imm 4; (case h => assumption); (case e => with_unfolding_all rfl)) | (apply h_imm 5; (case h => assumption); (case e => with_unfolding_all rfl)))); (case h0 => (first | decide | omega | (simp only [List.length_map, List.length_append, List.length_take, List.length_drop, List.length_set]; omega))))
  | (apply h_gtupV; (case h => (first | apply Im.int | apply Im.str | apply Im.bl | apply Im.non | assumption | (apply h_imm 0; (case h => assumption); (case e => with_unfolding_all rfl)) | (apply h_imm 1; (case h => assumption); (case e => with_unfolding_all rfl)) | (apply h_imm 2; (case h => assumption); (case e => with_unfolding_all rfl)) | (apply h_imm 3; (case h => assumption); (case e => with_unfolding_all rfl)) | (apply h_imm 4; (case h => assumption); (case e => with_unfolding_all rfl)) | (apply h_imm 5; (case h => assumption); (case e => with_unfolding_all rfl)))); (case hn => with_unfolding_all rfl); (case hv => with_unfolding_all rfl))
  | (apply h_isiB)
  | (apply h_exb)
  | (apply h_eqr)
  | (apply iteT)
  | (apply h_nT)
  | (apply h_nF)
  | (apply iteF)
  | (apply h_brT)
  | (apply h_brF)
  | (apply h_brET)
  | (apply h_brEF)
  | (apply h_brNT)
  | (apply h_brNF)
  | (apply h_append 0; (case h => assumption); (case e => with_unfolding_all rfl); (case hs => (first | assumption | (apply Or.inl; assumption) | (apply Or.inr; simp))); (case z => (rw [sizeLine_eq]; ((try simp only [List.length_append, List.length_cons, List.length_nil, List.length_map, List.length_replicate, List.length_set, List.length_take, List.length_drop]) <;> omega))))
  | (apply h_append 1; (case h => assumption); (case e => with_unfolding_all rfl); (case hs => (first | assumption | (apply Or.inl; assumption) | (apply Or.inr; simp))); (case z => (rw [sizeLine_eq]; ((try simp only [List.length_append, List.length_cons, List.length_nil, List.length_map, List.length_replicate, List.length_set, List.length_take, List.length_drop]) <;> omega))))
  | (apply h_append 2; (case h => assumption); (case e => with_unfolding_all rfl); (case hs => (first | assumption | (apply Or.inl; assumption) | (apply Or.inr; simp))); (case z => (rw [sizeLine_eq]; ((try simp only [List.length_append, List.length_cons, List.length_nil, List.length_map, List.length_replicate, List.length_set, List.length_take, List.length_drop]) <;> omega))))
  | (apply h_append 3; (case h => assumption); (case e => with_unfolding_all rfl); (case hs => (first | assumption | (apply Or.inl; assumption) | (apply Or.inr; simp))); (case z => (rw [sizeLine_eq]; ((try simp only [List.length_append, List.length_cons, List.length_nil, List.length_map, List.length_replicate, List.length_set, List.length_take, List.length_drop]) <;> omega))))
  | (apply h_append 4; (case h => assumption); (case e => with_unfolding_all rfl); (case hs => (first | assumption | (apply Or.inl; assumption) | (apply Or.inr; simp))); (case z => (rw [sizeLine_eq]; ((try simp only [List.length_append, List.length_cons, List.length_nil, List.length_map, List.length_replicate, List.length_set, List.length_take, List.length_drop]) <;> omega))))
  | (apply h_appendD 0; (case h => assumption); (case e => with_unfolding_all rfl); (case hd => (first | apply Im.int | apply Im.str | apply Im.bl | apply Im.non | assumption | (apply h_imm 0; (case h => assumption); (case e => with_unfolding_all rfl)) | (apply h_imm 1; (case h => assumption); (case e => with_unfolding_all rfl)) | (apply h_imm 2; (case h => assumption); (case e => with_unfolding_all rfl)) | (apply h_imm 3; (case h => assumption); (case e => with_unfolding_all rfl)) | (apply h_imm 4; (case h => assumption); (case e => with_unfolding_all rfl)) | (apply h_imm 5; (case h => assumption); (case e => with_unfolding_all rfl)))); (case hs => (first | assumption | (apply Or.inl; assumption) | (apply Or.inr; simp))); (case z => (rw [sizeLine_eq]; ((try simp only [List.length_append, List.length_cons, List.length_nil, List.length_map, List.length_replicate, List.length_set, List.length_take, List.length_drop]) <;> omega))))
  | (apply h_appendD 1; (case h => assumption); (case e => with_unfolding_all rfl); (case hd => (first | apply Im.int | apply Im.str | apply Im.bl | apply Im.non | assumption | (apply h_imm 0; (case h => assumption); (case e => with_unfolding_all rfl)) | (apply h_imm 1; (case h => assumption); (case e => with_unfolding_all rfl)) | (apply h_imm 2; (case h => assumption); (case e => with_unfolding_all rfl)) | (apply h_imm 3; (case h => assumption); (case e => with_unfolding_all rfl)) | (apply h_imm 4; (case h => assumption); (case e => with_unfolding_all rfl)) | (apply h_imm 5; (case h => assumption); (case e => with_unfolding_all rfl)))); (case hs => (first | assumption | (apply Or.inl; assumption) | (apply Or.inr; simp))); (case z => (rw [sizeLine_eq]; ((try simp only [List.length_append, List.length_cons, List.length_nil, List.length_map, List.length_replicate, List.length_set, List.length_take, List.length_drop]) <;> omega))))
  | (apply h_appendD 2; (case h => assumption); (case e => with_unfolding_all rfl); (case hd => (first | apply Im.int | apply Im.str | apply Im.bl | apply Im.non | assumption | (apply h_imm 0; (case h => assumption); (case e => with_unfolding_all rfl)) | (apply h_imm 1; (case h => assumption); (case e => with_unfolding_all rfl)) | (apply h_imm 2; (case h => assumption); (case e => with_unfolding_all rfl)) | (apply h_imm 3; (case h => assumption); (case e => with_unfolding_all rfl)) | (apply h_imm 4; (case h => assumption); (case e => with_unfolding_all rfl)) | (apply h_imm 5; (case h => assumption); (case e => with_unfolding_all rfl)))); (case hs => (first | assumption | (apply Or.inl; assumption) | (apply Or.inr; simp))); (case z => (rw [sizeLine_eq]; ((try simp only [List.length_append, List.length_cons, List.length_nil, List.length_map, List.length_replicate, List.length_set, List.length_take, List.length_drop]) <;> omega))))
  | (apply h_appendD 3; (case h => assumption); (case e => with_unfolding_all rfl); (case hd => (first | apply Im.int | apply Im.str | apply Im.bl | apply Im.non | assumption | (apply h_imm 0; (case h => assumption); (case e => with_unfolding_all rfl)) | (apply h_imm 1; (case h => assumption); (case e => with_unfolding_all rfl)) | (apply h_imm 2; (case h => assumption); (case e => with_unfolding_all rfl)) | (apply h_imm 3; (case h => assumption); (case e => with_unfolding_all rfl)) | (apply h_imm 4; (case h => assumption); (case e => with_unfolding_all rfl)) | (apply h_imm 5; (case h => assumption); (case e => with_unfolding_all rfl)))); (case hs => (first | assumption | (apply Or.inl; assumption) | (apply Or.inr; simp))); (case z => (rw [sizeLine_eq]; ((try simp only [List.length_append, List.length_cons, List.length_nil, List.length_map, List.length_replicate, List.length_set, List.length_take, List.length_drop]) <;> omega))))
  | (apply h_appendD 4; (case h => assumption); (case e => with_unfolding_all rfl); (case hd => (first | apply Im.int | apply Im.str | apply Im.bl | apply Im.non | assumption | (apply h_imm 0; (case h => assumption); (case e => with_unfolding_all rfl)) | (apply h_imm 1; (case h => assumption); (case e => with_unfolding_all rfl)) | (apply h_imm 2; (case h => assumption); (case e => with_unfolding_all rfl)) | (apply h_imm 3; (case h => assumption); (case e => with_unfolding_all rfl)) | (apply h_imm 4; (case h => assumption); (case e => with_unfolding_all rfl)) | (apply h_imm 5; (case h => assumption); (case e => with_unfolding_all rfl)))); (case hs => (first | assumption | (apply Or.inl; assumption) | (apply Or.inr; simp))); (case z => (rw [sizeLine_eq]; ((try simp only [List.length_append, List.length_cons, List.length_nil, List.length_map, List.length_replicate, List.length_set, List.length_take, List.length_drop]) <;> omega))))
  | (apply h_tyL 0; (case h => assumption); (case e => with_unfolding_all rfl))
  | (apply h_tyL 1; (case h => assumption); (case e => with_unfolding_all rfl))
  | (apply h_tyL 2; (case h => assumption); (case e => with_unfolding_all rfl))
  | (apply h_tyL 3; (case h => assumption); (case e => with_unfolding_all rfl))
  | (apply h_tyL 4; (case h => assumption); (case e => with_unfolding_all rfl))
  | (apply h_tyD 0; (case h => assumption); (case e => with_unfolding_all rfl))
  | (apply h_tyD 1; (case h => assumption); (case e => with_unfolding_all rfl))
  | (apply h_tyD 2; (case h => assumption); (case e => with_unfolding_all rfl))
  | (apply h_tyD 3; (case h => assumption); (case e => with_unfolding_all rfl))
  | (apply h_tyD 4; (case h => assumption); (case e => with_unfolding_all rfl))
  | (apply h_tyS)
  | (apply h_lenL 0; (case h => assumption); (case e => with_unfolding_all rfl))
  | (apply h_lenL 1; (case h => assumption); (case e => with_unfolding_all rfl))
  | (apply h_lenL 2; (case h => assumption); (case e => with_unfolding_all rfl))
  | (apply h_lenL 3; (case h => assumption); (case e => with_unfolding_all rfl))
  | (apply h_lenL 4; (case h => assumption); (case e => with_unfolding_all rfl))
  | (apply h_lenD 0; (case h => assumption); (case e => with_unfolding_all rfl))
  | (apply h_lenD 1; (case h => assumption); (case e => with_unfolding_all rfl))
  | (apply h_lenD 2; (case h => assumption); (case e => with_unfolding_all rfl))
  | (apply h_lenD 3; (case h => assumption); (case e => with_unfolding_all rfl))
  | (apply h_lenD 4; (case h => assumption); (case e => with_unfolding_all rfl))
  | (apply h_setL 0; (case h => assumption); (case e => with_unfolding_all rfl); (case hs => (first | assumption | (apply Or.inl; assumption) | (apply Or.inr; simp))); (case hi => with_unfolding_all rfl))
  | (apply h_setL 1; (case h => assumption); (case e => with_unfolding_all rfl); (case hs => (first | assumption | (apply Or.inl; assumption) | (apply Or.inr; simp))); (case hi => with_unfolding_all rfl))
  | (apply h_setL 2; (case h => assumption); (case e => with_unfolding_all rfl); (case hs => (first | assumption | (apply Or.inl; assumption) | (apply Or.inr; simp))); (case hi => with_unfolding_all rfl))
  | (apply h_setL 3; (case h => assumption); (case e => with_unfolding_all rfl); (case hs => (first | assumption | (apply Or.inl; assumption) | (apply Or.inr; simp))); (case hi => with_unfolding_all rfl))
  | (apply h_setL 4; (case h => assumption); (case e => with_unfolding_all rfl); (case hs => (first | assumption | (apply Or.inl; assumption) | (apply Or.inr; simp))); (case hi => with_unfolding_all rfl))
  | (apply h_isLn 0; (case h => assumption); (case e => with_unfolding_all rfl))
  | (apply h_isLn 1; (case h => assumption); (case e => with_unfolding_all rfl))
  | (apply h_isLn 2; (case h => assumption); (case e => with_unfolding_all rfl))
  | (apply h_isLn 3; (case h => assumption); (case e => with_unfolding_all rfl))
  | (apply h_isLn 4; (case h => assumption); (case e => with_unfolding_all rfl))
  | (apply h_isLd 0; (case h => assumption); (case e => with_unfolding_all rfl))
  | (apply h_isLd 1; (case h => assumption); (case e => with_unfolding_all rfl))
  | (apply h_isLd 2; (case h => assumption); (case e => with_unfolding_all rfl))
  | (apply h_isLd 3; (case h => assumption); (case e => with_unfolding_all rfl))
  | (apply h_isLd 4; (case h => assumption); (case e => with_unfolding_all rfl))
  | (apply h_isT; (case h => (first | apply Im.int | apply Im.str | apply Im.bl | apply Im.non | assumption | (apply h_imm 0; (case h => assumption); (case e => with_unfolding_all rfl)) | (apply h_imm 1; (case h => assumption); (case e => with_unfolding_all rfl)) | (apply h_imm 2; (case h => assumption); (case e => with_unfolding_all rfl)) | (apply h_imm 3; (case h => assumption); (case e => with_unfolding_all rfl)) | (apply h_imm 4; (case h => assumption); (case e => with_unfolding_all rfl)) | (apply h_imm 5; (case h => assumption); (case e => with_unfolding_all rfl)))))
  | (apply h_tupOf 0; (case h => assumption); (case e => with_unfolding_all rfl))
  | (apply h_tupOf 1; (case h => assumption); (case e => with_unfolding_all rfl))
  | (apply h_tupOf 2; (case h => assumption); (case e => with_unfolding_all rfl))
  | (apply h_tupOf 3; (case h => assumption); (case e => with_unfolding_all rfl))
  | (apply h_tupOf 4; (case h => assumption); (case e => with_unfolding_all rfl))
  | (apply h_listOf 0; (case h => assumption); (case e => with_unfolding_all rfl))
  | (apply h_listOf 1; (case h => assumption); (case e => with_unfolding_all rfl))
  | (apply h_listOf 2; (case h => assumption); (case e => with_unfolding_all rfl))
  | (apply h_listOf 3; (case h => assumption); (case e => with_unfolding_all rfl))
  | (apply h_listOf 4; (case h => assumption); (case e => with_unfolding_all rfl))
  | (apply h_lst; (case h => assumption); (case z => (rw [sizeLine_eq]; ((try simp only [List.length_append, List.length_cons, List.length_nil, List.length_map, List.length_replicate, List.length_set, List.length_take, List.length_drop]) <;> omega))))
  | (apply h_tup; (case h => assumption); (case z => (rw [sizeLine_eq]; ((try simp only [List.length_append, List.length_cons, List.length_nil, List.length_map, List.length_replicate, List.length_set, List.length_take, List.length_drop]) <;> omega))); (case hd => repeat (first | apply Ims.nil | (apply Ims.cons; (focus (first | apply Im.int | apply Im.str | apply Im.bl | apply Im.non | assumption | (apply h_imm 0; (case h => assumption); (case e => with_unfolding_all rfl)) | (apply h_imm 1; (case h => assumption); (case e => with_unfolding_all rfl)) | (apply h_imm 2; (case h => assumption); (case e => with_unfolding_all rfl)) | (apply h_imm 3; (case h => assumption); (case e => with_unfolding_all rfl)) | (apply h_imm 4; (case h => assumption); (case e => with_unfolding_all rfl)) | (apply h_imm 5; (case h => assumption); (case e => with_unfolding_all rfl))))))))
  | (apply And.intro; (case left => (first | decide | omega | (simp only [List.length_map, List.length_append, List.length_take, List.length_drop, List.length_set]; omega))))
  | (apply h_mr; (case h1 => (first | decide | omega | (simp only [List.length_map, List.length_append, List.length_take, List.length_drop, List.length_set]; omega))); (case h2 => (first | decide | omega | (simp only [List.length_map, List.length_append, List.length_take, List.length_drop, List.length_set]; omega))))
  | (apply h_ml; (case h1 => (first | decide | omega | (simp only [List.length_map, List.length_append, List.length_take, List.length_drop, List.length_set]; omega))); (case h2 => (first | decide | omega | (simp only [List.length_map, List.length_append, List.length_take, List.length_drop, List.length_set]; omega))))
  | (apply h_dv; (case h1 => (first | decide | omega | (simp only [List.length_map, List.length_append, List.length_take, List.length_drop, List.length_set]; omega))); (case h2 => (first | decide | omega | (simp only [List.length_map, List.length_append, List.length_take, List.length_drop, List.length_set]; omega))))
  | (apply h_pw; (case h1 => (first | decide | omega | (simp only [List.length_map, List.length_append, List.length_take, List.length_drop, List.length_set]; omega))); (case h2 => (first | decide | omega | (simp only [List.length_map, List.length_append, List.length_take, List.length_drop, List.length_set]; omega))); (case h3 => decide))
  | (apply And.intro; (case left => (rw [sizeLine_eq]; ((try simp only [List.length_append, List.length_cons, List.length_nil, List.length_map, List.length_replicate, List.length_set, List.length_take, List.length_drop]) <;> omega))))
  | (apply h_wnum 0; (case h => assumption); (case e => with_unfolding_all rfl); (case h0 => (first | decide | omega | (simp only [List.length_map, List.length_append, List.length_take, List.length_drop, List.length_set]; omega))); (case h1 => (first | decide | omega | (simp only [List.length_map, List.length_append, List.length_take, List.length_drop, List.length_set]; omega))); (case h2 => (first | decide | omega | (simp only [List.length_map, List.length_append, List.length_take, List.length_drop, List.length_set]; omega))); (case h3 => (first | decide | omega | (simp only [List.length_map, List.length_append, List.length_take, List.length_drop, List.length_set]; omega))))
  | (apply h_wnum 1; (case h => assumption); (case e => with_unfolding_all rfl); (case h0 => (first | decide | omega | (simp only [List.length_map, List.length_append, List.length_take, List.length_drop, List.length_set]; omega))); (case h1 => (first | decide | omega | (simp only [List.length_map, List.length_append, List.length_take, List.length_drop, List.length_set]; omega))); (case h2 => (first | decide | omega | (simp only [List.length_map, List.length_append, List.length_take, List.length_drop, List.length_set]; omega))); (case h3 => (first | decide | omega | (simp only [List.length_map, List.length_append, List.length_take, List.length_drop, List.length_set]; omega))))
  | (apply h_wnum 2; (case h => assumption); (case e => with_unfolding_all rfl); (case h0 => (first | decide | omega | (simp only [List.length_map, List.length_append, List.length_take, List.length_drop, List.length_set]; omega))); (case h1 => (first | decide | omega | (simp only [List.length_map, List.length_append, List.length_take, List.length_drop, List.length_set]; omega))); (case h2 => (first | decide | omega | (simp only [List.length_map, List.length_append, List.length_take, List.length_drop, List.length_set]; omega))); (case h3 => (first | decide | omega | (simp only [List.length_map, List.length_append, List.length_take, List.length_drop, List.length_set]; omega))))
  | (apply h_rdword 0; (case h => assumption); (case e => with_unfolding_all rfl); (case h0 => (first | decide | omega | (simp only [List.length_map, List.length_append, List.length_take, List.length_drop, List.length_set]; omega))); (case h1 => (first | decide | omega | (simp only [List.length_map, List.length_append, List.length_take, List.length_drop, List.length_set]; omega))); (case h2 => (first | decide | omega | (simp only [List.length_map, List.length_append, List.length_take, List.length_drop, List.length_set]; omega))); (case h3 => (first | decide | omega | (simp only [List.length_map, List.length_append, List.length_take, List.length_drop, List.length_set]; omega))))
  | (apply h_rdword 1; (case h => assumption); (case e => with_unfolding_all rfl); (case h0 => (first | decide | omega | (simp only [List.length_map, List.length_append, List.length_take, List.length_drop, List.length_set]; omega))); (case h1 => (first | decide | omega | (simp only [List.length_map, List.length_append, List.length_take, List.length_drop, List.length_set]; omega))); (case h2 => (first | decide | omega | (simp only [List.length_map, List.length_append, List.length_take, List.length_drop, List.length_set]; omega))); (case h3 => (first | decide | omega | (simp only [List.length_map, List.length_append, List.length_take, List.length_drop, List.length_set]; omega))))
  | (apply h_rdword 2; (case h => assumption); (case e => with_unfolding_all rfl); (case h0 => (first | decide | omega | (simp only [List.length_map, List.length_append, List.length_take, List.length_drop, List.length_set]; omega))); (case h1 => (first | decide | omega | (simp only [List.length_map, List.length_append, List.length_take, List.length_drop, List.length_set]; omega))); (case h2 => (first | decide | omega | (simp only [List.length_map, List.length_append, List.length_take, List.length_drop, List.length_set]; omega))); (case h3 => (first | decide | omega | (simp only [List.length_map, List.length_append, List.length_take, List.length_drop, List.length_set]; omega))))
  | (apply h_rslot 0; (case h => assumption); (case e => with_unfolding_all rfl); (case h0 => (first | decide | omega | (simp only [List.length_map, List.length_append, List.length_take, List.length_drop, List.length_set]; omega))); (case h1 => (first | decide | omega | (simp only [List.length_map, List.length_append, List.length_take, List.length_drop, List.length_set]; omega))); (case h2 => (first | decide | omega | (simp only [List.length_map, List.length_append, List.length_take, List.length_drop, List.length_set]; omega))); (case h3 => (first | decide | omega | (simp only [List.length_map, List.length_append, List.length_take, List.length_drop, List.length_set]; omega))); (case h4 => (first | decide | omega | (simp only [List.length_map, List.length_append, List.length_take, List.length_drop, List.length_set]; omega))); (case h5 => (first | decide | omega | (simp only [List.length_map, List.length_append, List.length_take, List.length_drop, List.length_set]; omega))); (case h6 => (first | decide | omega | (simp only [List.length_map, List.length_append, List.length_take, List.length_drop, List.length_set]; omega))); (case h7 => (first | decide | omega | (simp only [List.length_map, List.length_append, List.length_take, List.length_drop, List.length_set]; omega))))
  | (apply h_rslot 1; (case h => assumption); (case e => with_unfolding_all rfl); (case h0 => (first | decide | omega | (simp only [List.length_map, List.length_append, List.length_take, List.length_drop, List.length_set]; omega))); (case h1 => (first | decide | omega | (simp only [List.length_map, List.length_append, List.length_take, List.length_drop, List.length_set]; omega))); (case h2 => (first | decide | omega | (simp only [List.length_map, List.length_append, List.length_take, List.length_drop, List.length_set]; omega))); (case h3 => (first | decide | omega | (simp only [List.length_map, List.length_append, List.length_take, List.length_drop, List.length_set]; omega))); (case h4 => (first | decide | omega | (simp only [List.length_map, List.length_append, List.length_take, List.length_drop, List.length_set]; omega))); (case h5 => (first | decide | omega | (simp only [List.length_map, List.length_append, List.length_take, List.length_drop, List.length_set]; omega))); (case h6 => (first | decide | omega | (simp only [List.length_map, List.length_append, List.length_take, List.length_drop, List.length_set]; omega))); (case h7 => (first | decide | omega | (simp only [List.length_map, List.length_append, List.length_take, List.length_drop, List.length_set]; omega))))
  | (apply h_rslot 2; (case h => assumption); (case e => with_unfolding_all rfl); (case h0 => (first | decide | omega | (simp only [List.length_map, List.length_append, List.length_take, List.length_drop, List.length_set]; omega))); (case h1 => (first | decide | omega | (simp only [List.length_map, List.length_append, List.length_take, List.length_drop, List.length_set]; omega))); (case h2 => (first | decide | omega | (simp only [List.length_map, List.length_append, List.length_take, List.length_drop, List.length_set]; omega))); (case h3 => (first | decide | omega | (simp only [List.length_map, List.length_append, List.length_take, List.length_drop, List.length_set]; omega))); (case h4 => (first | decide | omega | (simp only [List.length_map, List.length_append, List.length_take, List.length_drop, List.length_set]; omega))); (case h5 => (first | decide | omega | (simp only [List.length_map, List.length_append, List.length_take, List.length_drop, List.length_set]; omega))); (case h6 => (first | decide | omega | (simp only [List.length_map, List.length_append, List.length_take, List.length_drop, List.length_set]; omega))); (case h7 => (first | decide | omega | (simp only [List.length_map, List.length_append, List.length_take, List.length_drop, List.length_set]; omega))))
  | (apply h_put 0; (case h => assumption); (case e => with_unfolding_all rfl); (case h0 => (first | decide | omega | (simp only [List.length_map, List.length_append, List.length_take, List.length_drop, List.length_set]; omega))); (case h1 => (first | decide | omega | (simp only [List.length_map, List.length_append, List.length_take, List.length_drop, List.length_set]; omega))); (case h2 => (first | decide | omega | (simp only [List.length_map, List.length_append, List.length_take, List.length_drop, List.length_set]; omega))); (case h3 => (first | decide | omega | (simp only [List.length_map, List.length_append, List.length_take, List.length_drop, List.length_set]; omega))); (case hs => (first | assumption | (apply Or.inl; assumption) | (apply Or.inr; simp))))
  | (apply h_put 1; (case h => assumption); (case e => with_unfolding_all rfl); (case h0 => (first | decide | omega | (simp only [List.length_map, List.length_append, List.length_take, List.length_drop, List.length_set]; omega))); (case h1 => (first | decide | omega | (simp only [List.length_map, List.length_append, List.length_take, List.length_drop, List.length_set]; omega))); (case h2 => (first | decide | omega | (simp only [List.length_map, List.length_append, List.length_take, List.length_drop, List.length_set]; omega))); (case h3 => (first | decide | omega | (simp only [List.length_map, List.length_append, List.length_take, List.length_drop, List.length_set]; omega))); (case hs => (first | assumption | (apply Or.inl; assumption) | (apply Or.inr; simp))))
  | (apply h_put 2; (case h => assumption); (case e => with_unfolding_all rfl); (case h0 => (first | decide | omega | (simp only [List.length_map, List.length_append, List.length_take, List.length_drop, List.length_set]; omega))); (case h1 => (first | decide | omega | (simp only [List.length_map, List.length_append, List.length_take, List.length_drop, List.length_set]; omega))); (case h2 => (first | decide | omega | (simp only [List.length_map, List.length_append, List.length_take, List.length_drop, List.length_set]; omega))); (case h3 => (first | decide | omega | (simp only [List.length_map, List.length_append, List.length_take, List.length_drop, List.length_set]; omega))); (case hs => (first | assumption | (apply Or.inl; assumption) | (apply Or.inr; simp))))
  | (apply h_wrword 0; (case h => assumption); (case e => with_unfolding_all rfl); (case h0 => (first | decide | omega | (simp only [List.length_map, List.length_append, List.length_take, List.length_drop, List.length_set]; omega))); (case h1 => (first | decide | omega | (simp only [List.length_map, List.length_append, List.length_take, List.length_drop, List.length_set]; omega))); (case h2 => (first | decide | omega | (simp only [List.length_map, List.length_append, List.length_take, List.length_drop, List.length_set]; omega))); (case h3 => (first | decide | omega | (simp only [List.length_map, List.length_append, List.length_take, List.length_drop, List.length_set]; omega))); (case hs => (first | assumption | (apply Or.inl; assumption) | (apply Or.inr; simp))))
  | (apply h_wrword 1; (case h => assumption); (case e => with_unfolding_all rfl); (case h0 => (first | decide | omega | (simp only [List.length_map, List.length_append, List.length_take, List.length_drop, List.length_set]; omega))); (case h1 => (first | decide | omega | (simp only [List.length_map, List.length_append, List.length_take, List.length_drop, List.length_set]; omega))); (case h2 => (first | decide | omega | (simp only [List.length_map, List.length_append, List.length_take, List.length_drop, List.length_set]; omega))); (case h3 => (first | decide | omega | (simp only [List.length_map, List.length_append, List.length_take, List.length_drop, List.length_set]; omega))); (case hs => (first | assumption | (apply Or.inl; assumption) | (apply Or.inr; simp))))
  | (apply h_wrword 2; (case h => assumption); (case e => with_unfolding_all rfl); (case h0 => (first | decide | omega | (simp only [List.length_map, List.length_append, List.length_take, List.length_drop, List.length_set]; omega))); (case h1 => (first | decide | omega | (simp only [List.length_map, List.length_append, List.length_take, List.length_drop, List.length_set]; omega))); (case h2 => (first | decide | omega | (simp only [List.length_map, List.length_append, List.length_take, List.length_drop, List.length_set]; omega))); (case h3 => (first | decide | omega | (simp only [List.length_map, List.length_append, List.length_take, List.length_drop, List.length_set]; omega))); (case hs => (first | assumption | (apply Or.inl; assumption) | (apply Or.inr; simp))))
  | (apply h_power; (case h0 => (first | decide | omega | (simp only [List.length_map, List.length_append, List.length_take, List.length_drop, List.length_set]; omega))); (case h1 => (first | decide | omega | (simp only [List.length_map, List.length_append, List.length_take, List.length_drop, List.length_set]; omega))))
  | (apply h_bounds; (case h => assumption); (case h0 => (first | decide | omega | (simp only [List.length_map, List.length_append, List.length_take, List.length_drop, List.length_set]; omega))); (case h1 => (first | decide | omega | (simp only [List.length_map, List.length_append, List.length_take, List.length_drop, List.length_set]; omega))))
  | (apply h_fld 0; (case h => assumption); (case e => with_unfolding_all rfl); (case c => assumption); (case hf => (repeat (first | apply List.mem_cons_self | apply List.mem_cons_of_mem))); (case hl => (first | exact Wk_kind | exact Wk_source | exact Wk_target | exact Wk_value | exact Wk_done | exact Wk_source_bytes | exact Wk_target_bytes | exact Wk_result | exact Wk_new)))
  | (apply h_fld 1; (case h => assumption); (case e => with_unfolding_all rfl); (case c => assumption); (case hf => (repeat (first | apply List.mem_cons_self | apply List.mem_cons_of_mem))); (case hl => (first | exact Wk_kind | exact Wk_source | exact Wk_target | exact Wk_value | exact Wk_done | exact Wk_source_bytes | exact Wk_target_bytes | exact Wk_result | exact Wk_new)))
  | (apply h_fld 2; (case h => assumption); (case e => with_unfolding_all rfl); (case c => assumption); (case hf => (repeat (first | apply List.mem_cons_self | apply List.mem_cons_of_mem))); (case hl => (first | exact Wk_kind | exact Wk_source | exact Wk_target | exact Wk_value | exact Wk_done | exact Wk_source_bytes | exact Wk_target_bytes | exact Wk_result | exact Wk_new)))
  | (apply h_fld 3; (case h => assumption); (case e => with_unfolding_all rfl); (case c => assumption); (case hf => (repeat (first | apply List.mem_cons_self | apply List.mem_cons_of_mem))); (case hl => (first | exact Wk_kind | exact Wk_source | exact Wk_target | exact Wk_value | exact Wk_done | exact Wk_source_bytes | exact Wk_target_bytes | exact Wk_result | exact Wk_new)))
  | (apply h_sfld 0; (case h => assumption); (case e => with_unfolding_all rfl); (case c => assumption); (case hf => (repeat (first | apply List.mem_cons_self | apply List.mem_cons_of_mem))); (case hs => (first | assumption | (apply Or.inl; assumption) | (apply Or.inr; simp))); (case hl => (with_unfolding_all exact Nat.le_of_ble_eq_true rfl)); (case hp => (first | exact Wk_put_kind | exact Wk_put_source | exact Wk_put_target | exact Wk_put_value | exact Wk_put_done | exact Wk_put_source_bytes | exact Wk_put_target_bytes | exact Wk_put_result | exact Wk_put_new | exact Wk_new_kind | exact Wk_new_source | exact Wk_new_target | exact Wk_new_value | exact Wk_new_done | exact Wk_new_source_bytes | exact Wk_new_target_bytes | exact Wk_new_result | exact Wk_new_new)))
  | (apply h_sfld 1; (case h => assumption); (case e => with_unfolding_all rfl); (case c => assumption); (case hf => (repeat (first | apply List.mem_cons_self | apply List.mem_cons_of_mem))); (case hs => (first | assumption | (apply Or.inl; assumption) | (apply Or.inr; simp))); (case hl => (with_unfolding_all exact Nat.le_of_ble_eq_true rfl)); (case hp => (first | exact Wk_put_kind | exact Wk_put_source | exact Wk_put_target | exact Wk_put_value | exact Wk_put_done | exact Wk_put_source_bytes | exact Wk_put_target_bytes | exact Wk_put_result | exact Wk_put_new | exact Wk_new_kind | exact Wk_new_source | exact Wk_new_target | exact Wk_new_value | exact Wk_new_done | exact Wk_new_source_bytes | exact Wk_new_target_bytes | exact Wk_new_result | exact Wk_new_new)))
  | (apply h_sfld 2; (case h => assumption); (case e => with_unfolding_all rfl); (case c => assumption); (case hf => (repeat (first | apply List.mem_cons_self | apply List.mem_cons_of_mem))); (case hs => (first | assumption | (apply Or.inl; assumption) | (apply Or.inr; simp))); (case hl => (with_unfolding_all exact Nat.le_of_ble_eq_true rfl)); (case hp => (first | exact Wk_put_kind | exact Wk_put_source | exact Wk_put_target | exact Wk_put_value | exact Wk_put_done | exact Wk_put_source_bytes | exact Wk_put_target_bytes | exact Wk_put_result | exact Wk_put_new | exact Wk_new_kind | exact Wk_new_source | exact Wk_new_target | exact Wk_new_value | exact Wk_new_done | exact Wk_new_source_bytes | exact Wk_new_target_bytes | exact Wk_new_result | exact Wk_new_new)))
  | (apply h_sfld 3; (case h => assumption); (case e => with_unfolding_all rfl); (case c => assumption); (case hf => (repeat (first | apply List.mem_cons_self | apply List.mem_cons_of_mem))); (case hs => (first | assumption | (apply Or.inl; assumption) | (apply Or.inr; simp))); (case hl => (with_unfolding_all exact Nat.le_of_ble_eq_true rfl)); (case hp => (first | exact Wk_put_kind | exact Wk_put_source | exact Wk_put_target | exact Wk_put_value | exact Wk_put_done | exact Wk_put_source_bytes | exact Wk_put_target_bytes | exact Wk_put_result | exact Wk_put_new | exact Wk_new_kind | exact Wk_new_source | exact Wk_new_target | exact Wk_new_value | exact Wk_new_done | exact Wk_new_source_bytes | exact Wk_new_target_bytes | exact Wk_new_result | exact Wk_new_new)))
  | (apply h_faug 0; (case h => assumption); (case e => with_unfolding_all rfl); (case c => assumption); (case hf => (repeat (first | apply List.mem_cons_self | apply List.mem_cons_of_mem))); (case hl => (first | exact Wk_kind | exact Wk_source | exact Wk_target | exact Wk_value | exact Wk_done | exact Wk_source_bytes | exact Wk_target_bytes | exact Wk_result | exact Wk_new)))
  | (apply h_faug 1; (case h => assumption); (case e => with_unfolding_all rfl); (case c => assumption); (case hf => (repeat (first | apply List.mem_cons_self | apply List.mem_cons_of_mem))); (case hl => (first | exact Wk_kind | exact Wk_source | exact Wk_target | exact Wk_value | exact Wk_done | exact Wk_source_bytes | exact Wk_target_bytes | exact Wk_result | exact Wk_new)))
  | (apply h_faug 2; (case h => assumption); (case e => with_unfolding_all rfl); (case c => assumption); (case hf => (repeat (first | apply List.mem_cons_self | apply List.mem_cons_of_mem))); (case hl => (first | exact Wk_kind | exact Wk_source | exact Wk_target | exact Wk_value | exact Wk_done | exact Wk_source_bytes | exact Wk_target_bytes | exact Wk_result | exact Wk_new)))
  | (apply h_faug 3; (case h => assumption); (case e => with_unfolding_all rfl); (case c => assumption); (case hf => (repeat (first | apply List.mem_cons_self | apply List.mem_cons_of_mem))); (case hl => (first | exact Wk_kind | exact Wk_source | exact Wk_target | exact Wk_value | exact Wk_done | exact Wk_source_bytes | exact Wk_target_bytes | exact Wk_result | exact Wk_new)))
  | (apply h_faug2 0; (case h => assumption); (case e => with_unfolding_all rfl); (case hs => (first | assumption | (apply Or.inl; assumption) | (apply Or.inr; simp))); (case hl => (with_unfolding_all exact Nat.le_of_ble_eq_true rfl)); (case hp => (first | exact Wk_put_kind | exact Wk_put_source | exact Wk_put_target | exact Wk_put_value | exact Wk_put_done | exact Wk_put_source_bytes | exact Wk_put_target_bytes | exact Wk_put_result | exact Wk_put_new | exact Wk_new_kind | exact Wk_new_source | exact Wk_new_target | exact Wk_new_value | exact Wk_new_done | exact Wk_new_source_bytes | exact Wk_new_target_bytes | exact Wk_new_result | exact Wk_new_new)))
  | (apply h_faug2 1; (case h => assumption); (case e => with_unfolding_all rfl); (case hs => (first | assumption | (apply Or.inl; assumption) | (apply Or.inr; simp))); (case hl => (with_unfolding_all exact Nat.le_of_ble_eq_true rfl)); (case hp => (first | exact Wk_put_kind | exact Wk_put_source | exact Wk_put_target | exact Wk_put_value | exact Wk_put_done | exact Wk_put_source_bytes | exact Wk_put_target_bytes | exact Wk_put_result | exact Wk_put_new | exact Wk_new_kind | exact Wk_new_source | exact Wk_new_target | exact Wk_new_value | exact Wk_new_done | exact Wk_new_source_bytes | exact Wk_new_target_bytes | exact Wk_new_result | exact Wk_new_new)))
  | (apply h_faug2 2; (case h => assumption); (case e => with_unfolding_all rfl); (case hs => (first | assumption | (apply Or.inl; assumption) | (apply Or.inr; simp))); (case hl => (with_unfolding_all exact Nat.le_of_ble_eq_true rfl)); (case hp => (first | exact Wk_put_kind | exact Wk_put_source | exact Wk_put_target | exact Wk_put_value | exact Wk_put_done | exact Wk_put_source_bytes | exact Wk_put_target_bytes | exact Wk_put_result | exact Wk_put_new | exact Wk_new_kind | exact Wk_new_source | exact Wk_new_target | exact Wk_new_value | exact Wk_new_done | exact Wk_new_source_bytes | exact Wk_new_target_bytes | exact Wk_new_result | exact Wk_new_new)))
  | (apply h_faug2 3; (case h => assumption); (case e => with_unfolding_all rfl); (case hs => (first | assumption | (apply Or.inl; assumption) | (apply Or.inr; simp))); (case hl => (with_unfolding_all exact Nat.le_of_ble_eq_true rfl)); (case hp => (first | exact Wk_put_kind | exact Wk_put_source | exact Wk_put_target | exact Wk_put_value | exact Wk_put_done | exact Wk_put_source_bytes | exact Wk_put_target_bytes | exact Wk_put_result | exact Wk_put_new | exact Wk_new_kind | exact Wk_new_source | exact Wk_new_target | exact Wk_new_value | exact Wk_new_done | exact Wk_new_source_bytes | exact Wk_new_target_bytes | exact Wk_new_result | exact Wk_new_new)))
  | (apply h_meth 0; (case h => assumption); (case e => with_unfolding_all rfl); (case hl => (first | exact Wk_no_written | exact Wk_no_source_reads | exact Wk_no_target_reads | exact Wk_no_writes | exact Wk_no_reads | exact Wk_no_total | exact Wk_no_read_source | exact Wk_no_make_new | exact Wk_no_target_place | exact Wk_no_step | exact Wk_no_write | exact Wk_no_finish)))
  | (apply h_meth 1; (case h => assumption); (case e => with_unfolding_all rfl); (case hl => (first | exact Wk_no_written | exact Wk_no_source_reads | exact Wk_no_target_reads | exact Wk_no_writes | exact Wk_no_reads | exact Wk_no_total | exact Wk_no_read_source | exact Wk_no_make_new | exact Wk_no_target_place | exact Wk_no_step | exact Wk_no_write | exact Wk_no_finish)))
  | (apply h_meth 2; (case h => assumption); (case e => with_unfolding_all rfl); (case hl => (first | exact Wk_no_written | exact Wk_no_source_reads | exact Wk_no_target_reads | exact Wk_no_writes | exact Wk_no_reads | exact Wk_no_total | exact Wk_no_read_source | exact Wk_no_make_new | exact Wk_no_target_place | exact Wk_no_step | exact Wk_no_write | exact Wk_no_finish)))
  | (apply h_meth 3; (case h => assumption); (case e => with_unfolding_all rfl); (case hl => (first | exact Wk_no_written | exact Wk_no_source_reads | exact Wk_no_target_reads | exact Wk_no_writes | exact Wk_no_reads | exact Wk_no_total | exact Wk_no_read_source | exact Wk_no_make_new | exact Wk_no_target_place | exact Wk_no_step | exact Wk_no_write | exact Wk_no_finish)))
  | (apply h_ninT; (case h => (first | apply Im.int | apply Im.str | apply Im.bl | apply Im.non | assumption | (apply h_imm 0; (case h => assumption); (case e => with_unfolding_all rfl)) | (apply h_imm 1; (case h => assumption); (case e => with_unfolding_all rfl)) | (apply h_imm 2; (case h => assumption); (case e => with_unfolding_all rfl)) | (apply h_imm 3; (case h => assumption); (case e => with_unfolding_all rfl)) | (apply h_imm 4; (case h => assumption); (case e => with_unfolding_all rfl)) | (apply h_imm 5; (case h => assumption); (case e => with_unfolding_all rfl)))); (case hv => with_unfolding_all rfl); (case f1 => with_unfolding_all rfl); (case f2 => with_unfolding_all rfl))
  | (apply h_inT; (case h => (first | apply Im.int | apply Im.str | apply Im.bl | apply Im.non | assumption | (apply h_imm 0; (case h => assumption); (case e => with_unfolding_all rfl)) | (apply h_imm 1; (case h => assumption); (case e => with_unfolding_all rfl)) | (apply h_imm 2; (case h => assumption); (case e => with_unfolding_all rfl)) | (apply h_imm 3; (case h => assumption); (case e => with_unfolding_all rfl)) | (apply h_imm 4; (case h => assumption); (case e => with_unfolding_all rfl)) | (apply h_imm 5; (case h => assumption); (case e => with_unfolding_all rfl)))); (case hv => with_unfolding_all rfl); (case f1 => with_unfolding_all rfl); (case f2 => with_unfolding_all rfl))
  | (apply h_Wwri; (case h => assumption); (case i1 => (first | apply Im.int | apply Im.str | apply Im.bl | apply Im.non | assumption | (apply h_imm 0; (case h => assumption); (case e => with_unfolding_all rfl)) | (apply h_imm 1; (case h => assumption); (case e => with_unfolding_all rfl)) | (apply h_imm 2; (case h => assumption); (case e => with_unfolding_all rfl)) | (apply h_imm 3; (case h => assumption); (case e => with_unfolding_all rfl)) | (apply h_imm 4; (case h => assumption); (case e => with_unfolding_all rfl)) | (apply h_imm 5; (case h => assumption); (case e => with_unfolding_all rfl)))); (case i2 => (first | apply Im.int | apply Im.str | apply Im.bl | apply Im.non | assumption | (apply h_imm 0; (case h => assumption); (case e => with_unfolding_all rfl)) | (apply h_imm 1; (case h => assumption); (case e => with_unfolding_all rfl)) | (apply h_imm 2; (case h => assumption); (case e => with_unfolding_all rfl)) | (apply h_imm 3; (case h => assumption); (case e => with_unfolding_all rfl)) | (apply h_imm 4; (case h => assumption); (case e => with_unfolding_all rfl)) | (apply h_imm 5; (case h => assumption); (case e => with_unfolding_all rfl)))))
  | (apply h_Wsrd; (case h => assumption); (case i1 => (first | apply Im.int | apply Im.str | apply Im.bl | apply Im.non | assumption | (apply h_imm 0; (case h => assumption); (case e => with_unfolding_all rfl)) | (apply h_imm 1; (case h => assumption); (case e => with_unfolding_all rfl)) | (apply h_imm 2; (case h => assumption); (case e => with_unfolding_all rfl)) | (apply h_imm 3; (case h => assumption); (case e => with_unfolding_all rfl)) | (apply h_imm 4; (case h => assumption); (case e => with_unfolding_all rfl)) | (apply h_imm 5; (case h => assumption); (case e => with_unfolding_all rfl)))); (case i2 => (first | apply Im.int | apply Im.str | apply Im.bl | apply Im.non | assumption | (apply h_imm 0; (case h => assumption); (case e => with_unfolding_all rfl)) | (apply h_imm 1; (case h => assumption); (case e => with_unfolding_all rfl)) | (apply h_imm 2; (case h => assumption); (case e => with_unfolding_all rfl)) | (apply h_imm 3; (case h => assumption); (case e => with_unfolding_all rfl)) | (apply h_imm 4; (case h => assumption); (case e => with_unfolding_all rfl)) | (apply h_imm 5; (case h => assumption); (case e => with_unfolding_all rfl)))))
  | (apply h_Wtrd; (case h => assumption); (case i1 => (first | apply Im.int | apply Im.str | apply Im.bl | apply Im.non | assumption | (apply h_imm 0; (case h => assumption); (case e => with_unfolding_all rfl)) | (apply h_imm 1; (case h => assumption); (case e => with_unfolding_all rfl)) | (apply h_imm 2; (case h => assumption); (case e => with_unfolding_all rfl)) | (apply h_imm 3; (case h => assumption); (case e => with_unfolding_all rfl)) | (apply h_imm 4; (case h => assumption); (case e => with_unfolding_all rfl)) | (apply h_imm 5; (case h => assumption); (case e => with_unfolding_all rfl)))); (case i2 => (first | apply Im.int | apply Im.str | apply Im.bl | apply Im.non | assumption | (apply h_imm 0; (case h => assumption); (case e => with_unfolding_all rfl)) | (apply h_imm 1; (case h => assumption); (case e => with_unfolding_all rfl)) | (apply h_imm 2; (case h => assumption); (case e => with_unfolding_all rfl)) | (apply h_imm 3; (case h => assumption); (case e => with_unfolding_all rfl)) | (apply h_imm 4; (case h => assumption); (case e => with_unfolding_all rfl)) | (apply h_imm 5; (case h => assumption); (case e => with_unfolding_all rfl)))))
  | (apply h_Wwrs; (case h => assumption); (case i1 => (first | apply Im.int | apply Im.str | apply Im.bl | apply Im.non | assumption | (apply h_imm 0; (case h => assumption); (case e => with_unfolding_all rfl)) | (apply h_imm 1; (case h => assumption); (case e => with_unfolding_all rfl)) | (apply h_imm 2; (case h => assumption); (case e => with_unfolding_all rfl)) | (apply h_imm 3; (case h => assumption); (case e => with_unfolding_all rfl)) | (apply h_imm 4; (case h => assumption); (case e => with_unfolding_all rfl)) | (apply h_imm 5; (case h => assumption); (case e => with_unfolding_all rfl)))); (case i2 => (first | apply Im.int | apply Im.str | apply Im.bl | apply Im.non | assumption | (apply h_imm 0; (case h => assumption); (case e => with_unfolding_all rfl)) | (apply h_imm 1; (case h => assumption); (case e => with_unfolding_all rfl)) | (apply h_imm 2; (case h => assumption); (case e => with_unfolding_all rfl)) | (apply h_imm 3; (case h => assumption); (case e => with_unfolding_all rfl)) | (apply h_imm 4; (case h => assumption); (case e => with_unfolding_all rfl)) | (apply h_imm 5; (case h => assumption); (case e => with_unfolding_all rfl)))))
  | (apply h_Wrds; (case h => assumption); (case i1 => (first | apply Im.int | apply Im.str | apply Im.bl | apply Im.non | assumption | (apply h_imm 0; (case h => assumption); (case e => with_unfolding_all rfl)) | (apply h_imm 1; (case h => assumption); (case e => with_unfolding_all rfl)) | (apply h_imm 2; (case h => assumption); (case e => with_unfolding_all rfl)) | (apply h_imm 3; (case h => assumption); (case e => with_unfolding_all rfl)) | (apply h_imm 4; (case h => assumption); (case e => with_unfolding_all rfl)) | (apply h_imm 5; (case h => assumption); (case e => with_unfolding_all rfl)))); (case i2 => (first | apply Im.int | apply Im.str | apply Im.bl | apply Im.non | assumption | (apply h_imm 0; (case h => assumption); (case e => with_unfolding_all rfl)) | (apply h_imm 1; (case h => assumption); (case e => with_unfolding_all rfl)) | (apply h_imm 2; (case h => assumption); (case e => with_unfolding_all rfl)) | (apply h_imm 3; (case h => assumption); (case e => with_unfolding_all rfl)) | (apply h_imm 4; (case h => assumption); (case e => with_unfolding_all rfl)) | (apply h_imm 5; (case h => assumption); (case e => with_unfolding_all rfl)))))
  | (apply h_Wtot; (case h => assumption); (case i1 => (first | apply Im.int | apply Im.str | apply Im.bl | apply Im.non | assumption | (apply h_imm 0; (case h => assumption); (case e => with_unfolding_all rfl)) | (apply h_imm 1; (case h => assumption); (case e => with_unfolding_all rfl)) | (apply h_imm 2; (case h => assumption); (case e => with_unfolding_all rfl)) | (apply h_imm 3; (case h => assumption); (case e => with_unfolding_all rfl)) | (apply h_imm 4; (case h => assumption); (case e => with_unfolding_all rfl)) | (apply h_imm 5; (case h => assumption); (case e => with_unfolding_all rfl)))); (case i2 => (first | apply Im.int | apply Im.str | apply Im.bl | apply Im.non | assumption | (apply h_imm 0; (case h => assumption); (case e => with_unfolding_all rfl)) | (apply h_imm 1; (case h => assumption); (case e => with_unfolding_all rfl)) | (apply h_imm 2; (case h => assumption); (case e => with_unfolding_all rfl)) | (apply h_imm 3; (case h => assumption); (case e => with_unfolding_all rfl)) | (apply h_imm 4; (case h => assumption); (case e => with_unfolding_all rfl)) | (apply h_imm 5; (case h => assumption); (case e => with_unfolding_all rfl)))))
  | (apply h_Wplace; (case h => assumption); (case i1 => (first | apply Im.int | apply Im.str | apply Im.bl | apply Im.non | assumption | (apply h_imm 0; (case h => assumption); (case e => with_unfolding_all rfl)) | (apply h_imm 1; (case h => assumption); (case e => with_unfolding_all rfl)) | (apply h_imm 2; (case h => assumption); (case e => with_unfolding_all rfl)) | (apply h_imm 3; (case h => assumption); (case e => with_unfolding_all rfl)) | (apply h_imm 4; (case h => assumption); (case e => with_unfolding_all rfl)) | (apply h_imm 5; (case h => assumption); (case e => with_unfolding_all rfl)))); (case i2 => (first | apply Im.int | apply Im.str | apply Im.bl | apply Im.non | assumption | (apply h_imm 0; (case h => assumption); (case e => with_unfolding_all rfl)) | (apply h_imm 1; (case h => assumption); (case e => with_unfolding_all rfl)) | (apply h_imm 2; (case h => assumption); (case e => with_unfolding_all rfl)) | (apply h_imm 3; (case h => assumption); (case e => with_unfolding_all rfl)) | (apply h_imm 4; (case h => assumption); (case e => with_unfolding_all rfl)) | (apply h_imm 5; (case h => assumption); (case e => with_unfolding_all rfl)))))
  | (apply h_whole; (case h => (first | apply Im.int | apply Im.str | apply Im.bl | apply Im.non | assumption | (apply h_imm 0; (case h => assumption); (case e => with_unfolding_all rfl)) | (apply h_imm 1; (case h => assumption); (case e => with_unfolding_all rfl)) | (apply h_imm 2; (case h => assumption); (case e => with_unfolding_all rfl)) | (apply h_imm 3; (case h => assumption); (case e => with_unfolding_all rfl)) | (apply h_imm 4; (case h => assumption); (case e => with_unfolding_all rfl)) | (apply h_imm 5; (case h => assumption); (case e => with_unfolding_all rfl)))))
  | (apply h_sl2 0; (case h => assumption); (case e => with_unfolding_all rfl); (case hi => (first | decide | omega | (simp only [List.length_map, List.length_append, List.length_take, List.length_drop, List.length_set]; omega))); (case hj => (first | decide | omega | (simp only [List.length_map, List.length_append, List.length_take, List.length_drop, List.length_set]; omega))))
  | (apply h_sl2 1; (case h => assumption); (case e => with_unfolding_all rfl); (case hi => (first | decide | omega | (simp only [List.length_map, List.length_append, List.length_take, List.length_drop, List.length_set]; omega))); (case hj => (first | decide | omega | (simp only [List.length_map, List.length_append, List.length_take, List.length_drop, List.length_set]; omega))))
  | (apply h_sl2 2; (case h => assumption); (case e => with_unfolding_all rfl); (case hi => (first | decide | omega | (simp only [List.length_map, List.length_append, List.length_take, List.length_drop, List.length_set]; omega))); (case hj => (first | decide | omega | (simp only [List.length_map, List.length_append, List.length_take, List.length_drop, List.length_set]; omega))))
  | (apply h_slp 0; (case h => assumption); (case e => with_unfolding_all rfl); (case hj => (first | decide | omega | (simp only [List.length_map, List.length_append, List.length_take, List.length_drop, List.length_set]; omega))))
  | (apply h_slp 1; (case h => assumption); (case e => with_unfolding_all rfl); (case hj => (first | decide | omega | (simp only [List.length_map, List.length_append, List.length_take, List.length_drop, List.length_set]; omega))))
  | (apply h_slp 2; (case h => assumption); (case e => with_unfolding_all rfl); (case hj => (first | decide | omega | (simp only [List.length_map, List.length_append, List.length_take, List.length_drop, List.length_set]; omega))))
  | (apply h_sls 0; (case h => assumption); (case e => with_unfolding_all rfl); (case hi => (first | decide | omega | (simp only [List.length_map, List.length_append, List.length_take, List.length_drop, List.length_set]; omega))))
  | (apply h_sls 1; (case h => assumption); (case e => with_unfolding_all rfl); (case hi => (first | decide | omega | (simp only [List.length_map, List.length_append, List.length_take, List.length_drop, List.length_set]; omega))))
  | (apply h_sls 2; (case h => assumption); (case e => with_unfolding_all rfl); (case hi => (first | decide | omega | (simp only [List.length_map, List.length_append, List.length_take, List.length_drop, List.length_set]; omega))))
  | (apply h_reverse 0; (case h => assumption); (case e => with_unfolding_all rfl); (case hs => (first | assumption | (apply Or.inl; assumption) | (apply Or.inr; simp))))
  | (apply h_reverse 1; (case h => assumption); (case e => with_unfolding_all rfl); (case hs => (first | assumption | (apply Or.inl; assumption) | (apply Or.inr; simp))))
  | (apply h_reverse 2; (case h => assumption); (case e => with_unfolding_all rfl); (case hs => (first | assumption | (apply Or.inl; assumption) | (apply Or.inr; simp))))
  | (apply h_dget 0; (case h => assumption); (case e => with_unfolding_all rfl); (case hl => (first | exact dk_kind | exact dk_source | exact dk_target | exact dk_value | exact dk_rows | exact dk_at | exact dk_first | exact dk_second)))
  | (apply h_dget 1; (case h => assumption); (case e => with_unfolding_all rfl); (case hl => (first | exact dk_kind | exact dk_source | exact dk_target | exact dk_value | exact dk_rows | exact dk_at | exact dk_first | exact dk_second)))
  | (apply h_dget 2; (case h => assumption); (case e => with_unfolding_all rfl); (case hl => (first | exact dk_kind | exact dk_source | exact dk_target | exact dk_value | exact dk_rows | exact dk_at | exact dk_first | exact dk_second)))
  | (apply h_dget 3; (case h => assumption); (case e => with_unfolding_all rfl); (case hl => (first | exact dk_kind | exact dk_source | exact dk_target | exact dk_value | exact dk_rows | exact dk_at | exact dk_first | exact dk_second)))
  | (apply h_dget 4; (case h => assumption); (case e => with_unfolding_all rfl); (case hl => (first | exact dk_kind | exact dk_source | exact dk_target | exact dk_value | exact dk_rows | exact dk_at | exact dk_first | exact dk_second)))
  | (apply h_dget 5; (case h => assumption); (case e => with_unfolding_all rfl); (case hl => (first | exact dk_kind | exact dk_source | exact dk_target | exact dk_value | exact dk_rows | exact dk_at | exact dk_first | exact dk_second)))
  | (apply h_dput 0; (case h => assumption); (case e => with_unfolding_all rfl); (case hs => (first | assumption | (apply Or.inl; assumption) | (apply Or.inr; simp))); (case hz => (rw [sizeLine_eq]; with_unfolding_all exact (by decide : (8 : Nat) < 16777216))); (case hp => exact dk_put))
  | (apply h_dput 1; (case h => assumption); (case e => with_unfolding_all rfl); (case hs => (first | assumption | (apply Or.inl; assumption) | (apply Or.inr; simp))); (case hz => (rw [sizeLine_eq]; with_unfolding_all exact (by decide : (8 : Nat) < 16777216))); (case hp => exact dk_put))
  | (apply h_dput 2; (case h => assumption); (case e => with_unfolding_all rfl); (case hs => (first | assumption | (apply Or.inl; assumption) | (apply Or.inr; simp))); (case hz => (rw [sizeLine_eq]; with_unfolding_all exact (by decide : (8 : Nat) < 16777216))); (case hp => exact dk_put))
  | (apply h_dput 3; (case h => assumption); (case e => with_unfolding_all rfl); (case hs => (first | assumption | (apply Or.inl; assumption) | (apply Or.inr; simp))); (case hz => (rw [sizeLine_eq]; with_unfolding_all exact (by decide : (8 : Nat) < 16777216))); (case hp => exact dk_put))
  | (apply h_dput 4; (case h => assumption); (case e => with_unfolding_all rfl); (case hs => (first | assumption | (apply Or.inl; assumption) | (apply Or.inr; simp))); (case hz => (rw [sizeLine_eq]; with_unfolding_all exact (by decide : (8 : Nat) < 16777216))); (case hp => exact dk_put))
  | (apply h_dput 5; (case h => assumption); (case e => with_unfolding_all rfl); (case hs => (first | assumption | (apply Or.inl; assumption) | (apply Or.inr; simp))); (case hz => (rw [sizeLine_eq]; with_unfolding_all exact (by decide : (8 : Nat) < 16777216))); (case hp => exact dk_put))) | with_reducible intro))

/-! ### two works, woven -/
structure Rn where
  s0 : Ws
  s1 : Ws
  D : List Int
  o0 : Cf.Out
  o1 : Cf.Out
abbrev Pl := Option Nat × Option Nat
def runS (c0 c1 : Cf) (p0 p1 : Pl) (r : Rn) (k : Int) : Rn :=
  if k = 0 then (if r.o0.isG = true then ⟨(c0.step r.s0 r.D p0.1 p0.2).1, r.s1, (c0.step r.s0 r.D p0.1 p0.2).2.1, (c0.step r.s0 r.D p0.1 p0.2).2.2, r.o1⟩ else r)
  else (if r.o1.isG = true then ⟨r.s0, (c1.step r.s1 r.D p1.1 p1.2).1, (c1.step r.s1 r.D p1.1 p1.2).2.1, r.o0, (c1.step r.s1 r.D p1.1 p1.2).2.2⟩ else r)
def Rn.start (D : List Int) : Rn := ⟨Ws.start, Ws.start, D, .going, .going⟩
def runF (c0 c1 : Cf) (p0 p1 : Pl) (ks : List Int) (D : List Int) : Rn := (ks ++ List.replicate 16 0 ++ List.replicate 16 1).foldl (runS c0 c1 p0 p1) (Rn.start D)
structure RInv (c0 c1 : Cf) (n : Nat) (r : Rn) : Prop where
  i0 : r.o0.isG = true → c0.Inv r.s0 ∧ r.s0.done < c0.tot
  i1 : r.o1.isG = true → c1.Inv r.s1 ∧ r.s1.done < c1.tot
  l : r.D.length = n
theorem rinv_start {c0 c1 : Cf} (ok0 : c0.Ok) (ok1 : c1.Ok) (D : List Int) : RInv c0 c1 D.length (Rn.start D) :=
  ⟨fun _ => ⟨inv_start c0, tot_pos ok0⟩, fun _ => ⟨inv_start c1, tot_pos ok1⟩, rfl⟩
theorem going_of {c : Cf} {st : Ws} {D : List Int} {p : Pl} (ok : c.Ok) (inv : c.Inv st) (hlt : st.done < c.tot) (h : (c.step st D p.1 p.2).2.2.isG = true) : c.Inv (c.step st D p.1 p.2).1 ∧ (c.step st D p.1 p.2).1.done < c.tot := by
  rcases step_inv3 (D := D) (so := p.1) (to := p.2) ok inv hlt with ⟨e, _⟩ | ⟨e, h1, h2, h3⟩ | ⟨r, e, _⟩
  · rw [e] at h
    exact nomatch h
  · exact ⟨h3, by omega⟩
  · rw [e] at h
    exact nomatch h
theorem rinv_step {c0 c1 : Cf} {p0 p1 : Pl} {n : Nat} {r : Rn} {k : Int} (ok0 : c0.Ok) (ok1 : c1.Ok) (h : RInv c0 c1 n r) : RInv c0 c1 n (runS c0 c1 p0 p1 r k) := by
  unfold runS
  split
  · split
    · rename_i hg
      obtain ⟨a, b⟩ := h.i0 hg
      exact ⟨fun q => going_of ok0 a b q, h.i1, (step_len _ _ _ _ _).trans h.l⟩
    · exact h
  · split
    · rename_i hg
      obtain ⟨a, b⟩ := h.i1 hg
      exact ⟨h.i0, fun q => going_of ok1 a b q, (step_len _ _ _ _ _).trans h.l⟩
    · exact h
def runE (A : Ad) (w0 dx0 pb0 pt0 pn0 : Addr) (sv0 tv0 : V) (c0 : Cf) (s0 : Ws) (w1 dx1 pb1 pt1 pn1 : Addr) (sv1 tv1 : V) (c1 : Cf) (s1 : Ws) (d wl pl r0 r1 : Addr) (p0 p1 : Pl) (D : List Int) : List (Addr × Ent) :=
  wkE A w0 dx0 pb0 pt0 pn0 sv0 tv0 c0 s0 ++ (wkE A w1 dx1 pb1 pt1 pn1 sv1 tv1 c1 s1 ++ [(d, .raw (.lst (D.map V.int))), (wl, .raw (.lst [.ref w0, .ref w1])), (pl, .raw (.lst [.ref r0, .ref r1])), (r0, .raw (.lst [oN p0.1, oN p0.2])), (r1, .raw (.lst [oN p1.1, oN p1.2]))])
def sp__law_run (K : PySem.W.Frag) (A : Ad) : Sp := fun vs H Q _ => ∃ (w0 dx0 pb0 pt0 pn0 : Addr) (sv0 tv0 : V) (c0 : Cf) (w1 dx1 pb1 pt1 pn1 : Addr) (sv1 tv1 : V) (c1 : Cf) (d wl pl r0 r1 ol : Addr) (p0 p1 : Pl) (D ks : List Int), vs = [.ref wl, .ref pl, .ref ol, .ref d] ∧
  Led K H [w0, pb0, pt0, w1, pb1, pt1, d] H (runE A w0 dx0 pb0 pt0 pn0 sv0 tv0 c0 Ws.start w1 dx1 pb1 pt1 pn1 sv1 tv1 c1 Ws.start d wl pl r0 r1 p0 p1 D ++ [(ol, .raw (.lst (ks.map V.int)))]) (wkI sv0 tv0 c0 ++ wkI sv1 tv1 c1) ∧
  c0.Ok ∧ c1.Ok ∧ c0.Fit D.length p0.1 p0.2 ∧ c1.Fit D.length p1.1 p1.2 ∧ (∀ k ∈ ks, k = 0 ∨ k = 1) ∧ ks.length ≤ 1000 ∧
  ∀ tl t0 t1 H', H tl = none → Led K H [w0, pb0, pt0, w1, pb1, pt1, d] H' [(tl, .raw (.lst [.ref t0, .ref t1])), (d, .raw (.lst ((runF c0 c1 p0 p1 ks D).D.map V.int))), (wl, .raw (.lst [.ref w0, .ref w1])), (pl, .raw (.lst [.ref r0, .ref r1])), (r0, .raw (.lst [oN p0.1, oN p0.2])), (r1, .raw (.lst [oN p1.1, oN p1.2])), (ol, .raw (.lst (ks.map V.int)))]
    [(.ref t0, .tuple (oT (runF c0 c1 p0 p1 ks D).o0)), (.ref t1, .tuple (oT (runF c0 c1 p0 p1 ks D).o1))] → Q (.ref tl) H'
theorem foldl_take {α β : Type} (f : β → α → β) (b : β) {l : List α} {i : Nat} {x : α} (h : l[i]? = some x) : (l.take (i + 1)).foldl f b = f ((l.take i).foldl f b) x := by
  rw [List.take_add_one, h, List.foldl_append]
  rfl

def t__law_run (K : PySem.W.Frag) (A : Ad) : TS :=
  (tSeq (tAsg (tLst (tCons (tTup (tCons (tC (.str "going")) tNil)) (tCons (tTup (tCons (tC (.str "going")) tNil)) tNil))) (gName 4))
  (tSeq (tFor (jL K (tOp (mAdd K) (tOp (mAdd K) (mV 2) (tOp mMul (tLst (tCons (tC (.int 0)) tNil)) (tC (.int 16)))) (tOp mMul (tLst (tCons (tC (.int 1)) tNil)) (tC (.int 16))))) (gName 5)
    (mIf (mTest (tOp (mEq K) (tOp (rIx K) (mV 4) (mV 5)) (tTup (tCons (tC (.str "going")) tNil))))
    (tAsg (tCall (sp__law_told K A) [] E0 (tCons (tOp (rIx K) (mV 0) (mV 5)) (tCons (mV 3) (tCons (tOp (rIx K) (tOp (rIx K) (mV 1) (mV 5)) (tC (.int 0))) (tCons (tOp (rIx K) (tOp (rIx K) (mV 1) (mV 5)) (tC (.int 1))) tNil))))) (gSub (mV 4) (mV 5) rSetL))
    tNext))
  (tRet (mV 4))))
theorem rd__law_run {K : PySem.W.Frag} {A : Ad} {vs : List V} {H : Hp} {Q : VK} {E : XK} (h : sp__law_run K A vs H Q E) : t__law_run K A { nx := fun _ H' => Q .non H', rt := Q } (start ["_law_works", "_law_places", "_law_order", "_law_data", "_law_told_here", "_law_k"] vs) H := by
  obtain ⟨w0, dx0, pb0, pt0, pn0, sv0, tv0, c0, w1, dx1, pb1, pt1, pn1, sv1, tv1, c1, d, wl, pl, r0, r1, ol, p0, p1, D, ks, rfl, hL, ok0, ok1, fit0, fit1, hks, hkl, k⟩ := h
  show t__law_run K A _ [some (.ref wl), some (.ref pl), some (.ref ol), some (.ref d), none, none] H
  unfold t__law_run
  have hL : Led K H [w0, pb0, pt0, w1, pb1, pt1, d] H (runE A w0 dx0 pb0 pt0 pn0 sv0 tv0 c0 Ws.start w1 dx1 pb1 pt1 pn1 sv1 tv1 c1 Ws.start d wl pl r0 r1 p0 p1 D ++ [(ol, .raw (.lst (ks.map V.int)))]) [(sv0, oD c0.src), (tv0, oD c0.tgt), (sv1, oD c1.src), (tv1, oD c1.tgt)] := hL
  walk_at "gs"
  rename_i t0 H1 h1 t1 H2 h2 tl H3 ntl h3 z0 H4 nz0 h4
  refine h_rep 0 h4 rfl (by decide) (by decide) fun z1 H5 nz1 h5 => ?_
  walk_at "gs"
  refine h_cat 16 0 h5 rfl rfl (by rw [List.length_replicate, sizeLine_eq]; show ks.length + 16 ≤ _; omega) fun z2 H6 nz2 h6 => ?_
  walk_at "gs"
  rename_i z3 H7 nz3 h7
  refine h_rep 0 h7 rfl (by decide) (by decide) fun z4 H8 nz4 h8 => ?_
  walk_at "gs"
  refine h_cat 2 0 h8 rfl rfl (by rw [List.length_append, List.length_replicate, List.length_replicate, sizeLine_eq]; show ks.length + 16 + 16 ≤ _; omega) fun z5 H9 nz5 h9 => ?_
  refine h_isLn 0 h9 rfl ?_
  have h10 : Led K H [w0, pb0, pt0, w1, pb1, pt1, d] H9 ((tl, .raw (.lst [.ref t0, .ref t1])) :: (runE A w0 dx0 pb0 pt0 pn0 sv0 tv0 c0 Ws.start w1 dx1 pb1 pt1 pn1 sv1 tv1 c1 Ws.start d wl pl r0 r1 p0 p1 D ++ [(ol, .raw (.lst (ks.map V.int))), (z5, .raw (.lst ((ks ++ List.replicate 16 0 ++ List.replicate 16 1).map V.int)))])) ((.ref t1, .tuple [.str "going"]) :: (.ref t0, .tuple [.str "going"]) :: [(sv0, oD c0.src), (tv0, oD c0.tgt), (sv1, oD c1.src), (tv1, oD c1.tgt)]) := h9.pick [6, 7, 8, 9, 10, 11, 12, 13, 14, 15, 16, 17, 18, 19, 20, 0]
  have h10 := (h10.tl.tl.imNew (h10.im 0 _ _ rfl)).imNew (h10.im 1 _ _ rfl)
  clear hL h1 h2 h3 h4 h5 h6 h7 h8 h9
  have hkz : ∀ z ∈ (ks ++ List.replicate 16 0 ++ List.replicate 16 1 : List Int), z = 0 ∨ z = 1 := fun z hz => by
    rcases List.mem_append.mp hz with hz | hz
    · rcases List.mem_append.mp hz with hz | hz
      · exact hks z hz
      · exact .inl (List.eq_of_mem_replicate hz)
    · exact .inr (List.eq_of_mem_replicate hz)
  refine lpL (xs := (ks ++ List.replicate 16 0 ++ List.replicate 16 1).map V.int) (fun i σ H7 => ∃ (r : Rn) (t0 t1 pn0 pn1 : Addr) (y5 : Option V), σ = [some (.ref wl), some (.ref pl), some (.ref ol), some (.ref d), some (.ref tl), y5] ∧ r = ((ks ++ List.replicate 16 0 ++ List.replicate 16 1).take i).foldl (runS c0 c1 p0 p1) (Rn.start D) ∧ RInv c0 c1 D.length r ∧
      Led K H [w0, pb0, pt0, w1, pb1, pt1, d] H7 ((tl, .raw (.lst [.ref t0, .ref t1])) :: (runE A w0 dx0 pb0 pt0 pn0 sv0 tv0 c0 r.s0 w1 dx1 pb1 pt1 pn1 sv1 tv1 c1 r.s1 d wl pl r0 r1 p0 p1 r.D ++ [(ol, .raw (.lst (ks.map V.int))), (z5, .raw (.lst ((ks ++ List.replicate 16 0 ++ List.replicate 16 1).map V.int)))])) ((.ref t0, .tuple (oT r.o0)) :: (.ref t1, .tuple (oT r.o1)) :: [(sv0, oD c0.src), (tv0, oD c0.tgt), (sv1, oD c1.src), (tv1, oD c1.tgt)]))
    ⟨Rn.start D, t0, t1, pn0, pn1, _, rfl, rfl, rinv_start ok0 ok1 D, h10⟩ (fun i σ H7 _ ⟨_, _, _, _, _, _, _, _, _, h11⟩ => h11.sqL 15 rfl) ?_ ?_
  · clear h10
    rintro i x σ H7 hx ⟨r, t0, t1, pn0, pn1, y5, rfl, er, ri, h11⟩
    obtain ⟨z, hz, rfl⟩ := map_get hx
    have er' := foldl_take (runS c0 c1 p0 p1) (Rn.start D) hz
    rw [← er] at er'
    rcases hkz z (List.mem_of_getElem? hz) with rfl | rfl
    · have e0 : runS c0 c1 p0 p1 r 0 = (if r.o0.isG = true then ⟨(c0.step r.s0 r.D p0.1 p0.2).1, r.s1, (c0.step r.s0 r.D p0.1 p0.2).2.1, (c0.step r.s0 r.D p0.1 p0.2).2.2, r.o1⟩ else r) := if_pos rfl
      walk_at "gs"
      rename_i q1 H8 h12
      refine h_eqI (h12.im 1 _ _ rfl) (h12.im 0 _ _ rfl) (oT_shaped _) (oT_shaped .going) ?_
      rw [oT_going]
      have h12 := h12.tl
      clear h11
      refine h_brb (fun hg => ?_) (fun hg => ?_)
      · rw [if_pos hg] at e0
        obtain ⟨inv, hlt⟩ := ri.i0 hg
        have fit : c0.Fit r.D.length p0.1 p0.2 := by rw [ri.l]; exact fit0
        walk_at "gs"
        refine h_ixL 10 h12 rfl rfl ?_
        walk_at "gs"
        refine h_ixL 11 h12 rfl rfl ?_
        walk_at "gs"
        refine h_ixL 12 h12 rfl rfl ?_
        walk_at "gs"
        refine h_ixL 11 h12 rfl rfl ?_
        walk_at "gs"
        refine h_ixL 12 h12 rfl rfl ?_
        walk_at "gs"
        have h13 := h12.pick [1, 2, 3, 4, 9, 0, 5, 6, 7, 8, 10, 11, 12, 13, 14, 15]
        refine h_told (X := [_, _, _, _, _, _, _, _, _, _, _]) h13 (h12.im 2 _ _ rfl) (h12.im 3 _ _ rfl) ok0 inv hlt fit (.inr (by simp)) (.inr (by simp)) (.inr (by simp)) (.inr (by simp)) fun q pn' H9 hp h14 => ?_
        have h15 : Led K H [w0, pb0, pt0, w1, pb1, pt1, d] H9 ((tl, .raw (.lst [.ref t0, .ref t1])) :: (runE A w0 dx0 pb0 pt0 pn' sv0 tv0 c0 (c0.step r.s0 r.D p0.1 p0.2).1 w1 dx1 pb1 pt1 pn1 sv1 tv1 c1 r.s1 d wl pl r0 r1 p0 p1 (c0.step r.s0 r.D p0.1 p0.2).2.1 ++ [(ol, .raw (.lst (ks.map V.int))), (z5, .raw (.lst ((ks ++ List.replicate 16 0 ++ List.replicate 16 1).map V.int)))])) ((.ref q, .tuple (oT (c0.step r.s0 r.D p0.1 p0.2).2.2)) :: (.ref t0, .tuple (oT r.o0)) :: (.ref t1, .tuple (oT r.o1)) :: [(sv0, oD c0.src), (tv0, oD c0.tgt), (sv1, oD c1.src), (tv1, oD c1.tgt)]) := h14.pick [5, 0, 1, 2, 3, 6, 7, 8, 9, 4, 10, 11, 12, 13, 14, 15]
        clear h12 h13 h14
        walk_at "gs"
        rename_i H10 h16
        refine ⟨_, q, t1, pn', pn1, _, rfl, er'.symm, rinv_step ok0 ok1 ri, ?_⟩
        rw [e0]
        exact h16.tl.tl.imNew (h16.im 0 _ _ rfl)
      · rw [if_neg (by rw [hg]; exact Bool.false_ne_true)] at e0
        walk_at "gs"
        refine ⟨_, t0, t1, pn0, pn1, _, rfl, er'.symm, rinv_step ok0 ok1 ri, ?_⟩
        rw [e0]
        exact h12
    · have e0 : runS c0 c1 p0 p1 r 1 = (if r.o1.isG = true then ⟨r.s0, (c1.step r.s1 r.D p1.1 p1.2).1, (c1.step r.s1 r.D p1.1 p1.2).2.1, r.o0, (c1.step r.s1 r.D p1.1 p1.2).2.2⟩ else r) := if_neg (by decide)
      walk_at "gs"
      rename_i q1 H8 h12
      refine h_eqI (h12.im 2 _ _ rfl) (h12.im 0 _ _ rfl) (oT_shaped _) (oT_shaped .going) ?_
      rw [oT_going]
      have h12 := h12.tl
      clear h11
      refine h_brb (fun hg => ?_) (fun hg => ?_)
      · rw [if_pos hg] at e0
        obtain ⟨inv, hlt⟩ := ri.i1 hg
        have fit : c1.Fit r.D.length p1.1 p1.2 := by rw [ri.l]; exact fit1
        walk_at "gs"
        refine h_ixL 10 h12 rfl rfl ?_
        walk_at "gs"
        refine h_ixL 11 h12 rfl rfl ?_
        walk_at "gs"
        refine h_ixL 13 h12 rfl rfl ?_
        walk_at "gs"
        refine h_ixL 11 h12 rfl rfl ?_
        walk_at "gs"
        refine h_ixL 13 h12 rfl rfl ?_
        walk_at "gs"
        have h13 := h12.pick [5, 6, 7, 8, 9, 0, 1, 2, 3, 4, 10, 11, 12, 13, 14, 15]
        refine h_told (X := [_, _, _, _, _, _, _, _, _, _, _]) h13 (h12.im 4 _ _ rfl) (h12.im 5 _ _ rfl) ok1 inv hlt fit (.inr (by simp)) (.inr (by simp)) (.inr (by simp)) (.inr (by simp)) fun q pn' H9 hp h14 => ?_
        have h15 : Led K H [w0, pb0, pt0, w1, pb1, pt1, d] H9 ((tl, .raw (.lst [.ref t0, .ref t1])) :: (runE A w0 dx0 pb0 pt0 pn0 sv0 tv0 c0 r.s0 w1 dx1 pb1 pt1 pn' sv1 tv1 c1 (c1.step r.s1 r.D p1.1 p1.2).1 d wl pl r0 r1 p0 p1 (c1.step r.s1 r.D p1.1 p1.2).2.1 ++ [(ol, .raw (.lst (ks.map V.int))), (z5, .raw (.lst ((ks ++ List.replicate 16 0 ++ List.replicate 16 1).map V.int)))])) ((.ref q, .tuple (oT (c1.step r.s1 r.D p1.1 p1.2).2.2)) :: (.ref t0, .tuple (oT r.o0)) :: (.ref t1, .tuple (oT r.o1)) :: [(sv0, oD c0.src), (tv0, oD c0.tgt), (sv1, oD c1.src), (tv1, oD c1.tgt)]) := h14.pick [5, 6, 7, 8, 9, 0, 1, 2, 3, 4, 10, 11, 12, 13, 14, 15]
        clear h12 h13 h14
        walk_at "gs"
        rename_i H10 h16
        refine ⟨_, t0, q, pn0, pn', _, rfl, er'.symm, rinv_step ok0 ok1 ri, ?_⟩
        rw [e0]
        exact h16.tl.tl.tl.imNew (h16.im 0 _ _ rfl) |>.imNew (h16.im 1 _ _ rfl)
      · rw [if_neg (by rw [hg]; exact Bool.false_ne_true)] at e0
        walk_at "gs"
        refine ⟨_, t0, t1, pn0, pn1, _, rfl, er'.symm, rinv_step ok0 ok1 ri, ?_⟩
        rw [e0]
        exact h12
  · clear h10
    rintro σ H7 ⟨r, t0, t1, pn0, pn1, y5, rfl, er, ri, h11⟩
    rw [List.length_map, List.take_of_length_le (Nat.le_refl _)] at er
    have er : r = runF c0 c1 p0 p1 ks D := er
    subst er
    walk_at "gs"
    refine k tl t0 t1 H7 ?_ ((h11.pick [0, 9, 10, 11, 12, 13, 14]).iL (I1 := [_, _]))
    rcases ntl with z | z
    · exact z
    · simp only [List.mem_cons, List.not_mem_nil, or_false] at z
      rcases z with z | z | z | z | z | z | z
      · exact absurd z (h11.ne 0 1 rfl rfl (by decide))
      · exact absurd z (h11.ne 0 2 rfl rfl (by decide))
      · exact absurd z (h11.ne 0 3 rfl rfl (by decide))
      · exact absurd z (h11.ne 0 5 rfl rfl (by decide))
      · exact absurd z (h11.ne 0 6 rfl rfl (by decide))
      · exact absurd z (h11.ne 0 7 rfl rfl (by decide))
      · exact absurd z (h11.ne 0 9 rfl rfl (by decide))

/-! ### works apart -/
structure Cf.Reg (c : Cf) (p : Pl) (lo hi : Nat) : Prop where
  s : ∀ x, c.src = some x → ∃ i, p.1 = some i ∧ lo ≤ i ∧ i + x.n ≤ hi
  t : ∀ x, c.tgt = some x → ∃ i, p.2 = some i ∧ lo ≤ i ∧ i + x.n ≤ hi
theorem Cf.Reg.fit {c : Cf} {p : Pl} {lo hi n : Nat} (h : c.Reg p lo hi) (hn : hi ≤ n) : c.Fit n p.1 p.2 :=
  ⟨fun x e => by obtain ⟨i, a, b, d⟩ := h.s x e; exact ⟨i, a, by omega⟩, fun x e => by obtain ⟨i, a, b, d⟩ := h.t x e; exact ⟨i, a, by omega⟩⟩
theorem Cf.Reg.place {c : Cf} {p : Pl} {lo hi : Nat} (h : c.Reg p lo hi) : lo ≤ c.place p.1 p.2 ∧ c.place p.1 p.2 + c.wri.n ≤ hi := by
  cases c with
  | get s => obtain ⟨i, e, h1, h2⟩ := h.s s rfl; show lo ≤ p.1.getD 0 ∧ p.1.getD 0 + s.n ≤ hi; rw [e]; exact ⟨h1, h2⟩
  | set t v => obtain ⟨i, e, h1, h2⟩ := h.t t rfl; show lo ≤ p.2.getD 0 ∧ p.2.getD 0 + t.n ≤ hi; rw [e]; exact ⟨h1, h2⟩
  | add s v => obtain ⟨i, e, h1, h2⟩ := h.s s rfl; show lo ≤ p.1.getD 0 ∧ p.1.getD 0 + s.n ≤ hi; rw [e]; exact ⟨h1, h2⟩
  | exch s v => obtain ⟨i, e, h1, h2⟩ := h.s s rfl; show lo ≤ p.1.getD 0 ∧ p.1.getD 0 + s.n ≤ hi; rw [e]; exact ⟨h1, h2⟩
  | copy s t => obtain ⟨i, e, h1, h2⟩ := h.t t rfl; show lo ≤ p.2.getD 0 ∧ p.2.getD 0 + t.n ≤ hi; rw [e]; exact ⟨h1, h2⟩
def Agr (lo hi : Nat) (D E : List Int) : Prop := ∀ i, lo ≤ i → i < hi → D[i]? = E[i]?
theorem Agr.getD {lo hi i : Nat} {D E : List Int} (h : Agr lo hi D E) (h1 : lo ≤ i) (h2 : i < hi) : D.getD i 0 = E.getD i 0 := by
  rw [List.getD_eq_getElem?_getD, List.getD_eq_getElem?_getD, h i h1 h2]
theorem step_cong {c : Cf} {st : Ws} {D E : List Int} {p : Pl} {lo hi : Nat} (hr : c.Reg p lo hi) (hl : D.length = E.length) (hlt : st.done < c.tot) (ha : Agr lo hi D E) :
    (c.step st D p.1 p.2).1 = (c.step st E p.1 p.2).1 ∧ (c.step st D p.1 p.2).2.2 = (c.step st E p.1 p.2).2.2 ∧ Agr lo hi (c.step st D p.1 p.2).2.1 (c.step st E p.1 p.2).2.1 ∧ ∀ i, ¬ (lo ≤ i ∧ i < hi) → (c.step st D p.1 p.2).2.1[i]? = D[i]? := by
  have e1 : c.tot = c.srd + c.trd + c.wrs := rfl
  have e2 : c.rds = c.srd + c.trd := rfl
  unfold Cf.step
  by_cases h1 : st.done < c.srd
  · rw [if_pos h1, if_pos h1]
    obtain ⟨x, hx⟩ := src_get (c := c) (by omega)
    have hn := srd_is hx
    obtain ⟨i, hi', h3, h4⟩ := hr.s x hx
    have eS : c.stS st D p.1 = c.stS st E p.1 := by
      unfold Cf.stS
      rw [hi']
      show (⟨_, st.sb ++ [D.getD (i + st.done) 0], _, _, _⟩ : Ws) = ⟨_, st.sb ++ [E.getD (i + st.done) 0], _, _, _⟩
      rw [ha.getD (by omega) (by omega)]
    rw [eS]
    split
    · dsimp only
      split
      · exact ⟨rfl, rfl, ha, fun _ _ => rfl⟩
      · exact ⟨rfl, rfl, ha, fun _ _ => rfl⟩
    · exact ⟨rfl, rfl, ha, fun _ _ => rfl⟩
  · rw [if_neg h1, if_neg h1]
    by_cases h2 : st.done < c.rds
    · rw [if_pos h2, if_pos h2]
      obtain ⟨x, hx⟩ := tgt_get (c := c) (by omega)
      have hn := trd_le hx
      obtain ⟨i, hi', h3, h4⟩ := hr.t x hx
      have eT : c.stT st D p.2 = c.stT st E p.2 := by
        unfold Cf.stT
        rw [hi']
        show (⟨_, _, st.tb ++ [D.getD (i + (st.done - c.srd)) 0], _, _⟩ : Ws) = ⟨_, _, st.tb ++ [E.getD (i + (st.done - c.srd)) 0], _, _⟩
        rw [ha.getD (by omega) (by omega)]
      rw [eT]
      exact ⟨rfl, rfl, ha, fun _ _ => rfl⟩
    · rw [if_neg h2, if_neg h2]
      obtain ⟨p1, p2⟩ := hr.place
      obtain ⟨hg, hw⟩ := wrs_get (c := c) (by omega)
      refine ⟨rfl, rfl, fun i h3 h4 => ?_, fun i hi' => ?_⟩
      · show (D.set _ _)[i]? = (E.set _ _)[i]?
        rw [List.getElem?_set, List.getElem?_set, hl, ha i h3 h4]
      · show (D.set _ _)[i]? = _
        rw [List.getElem?_set, if_neg (by omega)]
/-- one work, on bytes E that are its own -/
structure OneI (c : Cf) (D0 : List Int) (p : Pl) (n : Nat) (st : Ws) (o : Cf.Out) (E : List Int) : Prop where
  g : o.isG = true → st.done = n
  k : (o = .range ∧ c.bad D0 p.1 = true ∧ E = D0) ∨ (o = c.told st ∧ c.Inv st ∧ c.Tr D0 p.1 p.2 st.done st E)
theorem told_isG {c : Cf} {st : Ws} (h : (c.told st).isG = true) : st.done < c.tot := by
  unfold Cf.told at h
  by_cases hl : st.done < c.tot
  · exact hl
  · rw [if_neg hl] at h
    exact nomatch h
theorem OneI.lt {c : Cf} {D0 E : List Int} {p : Pl} {n : Nat} {st : Ws} {o : Cf.Out} (h : OneI c D0 p n st o E) (hg : o.isG = true) : st.done < c.tot ∧ c.Inv st ∧ c.Tr D0 p.1 p.2 st.done st E := by
  rcases h.k with ⟨e, _⟩ | ⟨e, inv, tr⟩
  · rw [e] at hg
    exact nomatch hg
  · rw [e] at hg
    exact ⟨told_isG hg, inv, tr⟩
theorem OneI.start {c : Cf} (ok : c.Ok) (D0 : List Int) (p : Pl) : OneI c D0 p 0 Ws.start .going D0 :=
  ⟨fun _ => rfl, .inr ⟨by unfold Cf.told; rw [if_pos (show Ws.start.done < c.tot from tot_pos ok)], inv_start c, tr_start ok⟩⟩
theorem OneI.step {c : Cf} {D0 E : List Int} {p : Pl} {n : Nat} {st : Ws} {o : Cf.Out} (h : OneI c D0 p n st o E) (ok : c.Ok) (fit : c.Fit D0.length p.1 p.2) (hg : o.isG = true) :
    OneI c D0 p (n + 1) (c.step st E p.1 p.2).1 (c.step st E p.1 p.2).2.2 (c.step st E p.1 p.2).2.1 := by
  obtain ⟨hlt, inv, tr⟩ := h.lt hg
  have hn := h.g hg
  rcases tr.step ok fit hlt with ⟨_, hb, e1, e2⟩ | ⟨e1, tr'⟩
  · exact ⟨fun z => by rw [e2] at z; exact (nomatch z), .inl ⟨e2, hb, e1⟩⟩
  · rcases step_inv (D := E) (so := p.1) (to := p.2) ok inv hlt with ⟨z, _⟩ | ⟨_, hd, inv'⟩
    · rw [e1] at z
      exact absurd z (told_ne _ _)
    · refine ⟨fun _ => by omega, .inr ⟨e1, inv', ?_⟩⟩
      rw [hd]
      exact tr'
theorem OneI.skip {c : Cf} {D0 E : List Int} {p : Pl} {n : Nat} {st : Ws} {o : Cf.Out} (h : OneI c D0 p n st o E) (m : Nat) (hg : o.isG = false) : OneI c D0 p m st o E := ⟨fun z => by rw [hg] at z; exact (nomatch z), h.k⟩
def Cf.endO (c : Cf) (D : List Int) (so : Option Nat) : Cf.Out := if c.bad D so = true then .range else .done (c.toldAt D so)
theorem OneI.fin {c : Cf} {D0 E : List Int} {p : Pl} {n : Nat} {st : Ws} {o : Cf.Out} (h : OneI c D0 p n st o E) (ok : c.Ok) (fit : c.Fit D0.length p.1 p.2) (hb : Byt D0) (hn : c.tot ≤ n) : o = c.endO D0 p.1 ∧ E = c.resD D0 p.1 p.2 := by
  have hg : o.isG = false := by
    cases hg : o.isG with
    | false => rfl
    | true =>
      have := (h.lt hg).1
      have := h.g hg
      omega
  rcases h.k with ⟨e1, e2, e3⟩ | ⟨e, inv, tr⟩
  · unfold Cf.endO Cf.resD
    rw [if_pos e2, if_pos e2]
    exact ⟨e1, e3⟩
  · have hd : ¬ st.done < c.tot := fun z => by
      rw [e] at hg
      unfold Cf.told at hg
      rw [if_pos z] at hg
      exact nomatch hg
    have ht : st.done = c.tot := by have := tr.le; omega
    rw [ht] at tr
    have hbd : c.bad D0 p.1 = false := by
      cases hc : c.chk with
      | false => exact chk_bad hc
      | true =>
        obtain ⟨x, hx, hn⟩ := chk_src hc
        exact tr.rng (by rw [hn]; exact (ok.s x hx).n0) (by show c.srd ≤ c.srd + c.trd + c.wrs; omega)
    unfold Cf.endO Cf.resD
    rw [hbd, if_neg Bool.false_ne_true, if_neg Bool.false_ne_true]
    refine ⟨?_, tr.fin ok fit hb⟩
    rw [e]
    unfold Cf.told
    rw [if_neg hd, tr.res (by show c.srd ≤ c.srd + c.trd + c.wrs; omega)]
    rfl
/-- both -/
structure WI (c0 c1 : Cf) (p0 p1 : Pl) (D0 : List Int) (a0 b0 a1 b1 : Nat) (n0 n1 : Nat) (r : Rn) (E0 E1 : List Int) : Prop where
  w0 : OneI c0 D0 p0 n0 r.s0 r.o0 E0
  w1 : OneI c1 D0 p1 n1 r.s1 r.o1 E1
  l : r.D.length = D0.length
  l0 : E0.length = D0.length
  l1 : E1.length = D0.length
  g0 : Agr a0 b0 r.D E0
  g1 : Agr a1 b1 r.D E1
  f : ∀ i, ¬ (a0 ≤ i ∧ i < b0) → ¬ (a1 ≤ i ∧ i < b1) → r.D[i]? = D0[i]?
section
variable {c0 c1 : Cf} {p0 p1 : Pl} {D0 : List Int} {a0 b0 a1 b1 : Nat}
theorem WI.step {n0 n1 : Nat} {r : Rn} {E0 E1 : List Int} (h : WI c0 c1 p0 p1 D0 a0 b0 a1 b1 n0 n1 r E0 E1) (ok0 : c0.Ok) (ok1 : c1.Ok) (r0 : c0.Reg p0 a0 b0) (r1 : c1.Reg p1 a1 b1) (hb0 : b0 ≤ a1) (hb1 : b1 ≤ D0.length) (hb2 : b0 ≤ D0.length) {k : Int} (hk : k = 0 ∨ k = 1) :
    ∃ E0' E1', WI c0 c1 p0 p1 D0 a0 b0 a1 b1 (if k = 0 then n0 + 1 else n0) (if k = 0 then n1 else n1 + 1) (runS c0 c1 p0 p1 r k) E0' E1' := by
  rcases hk with rfl | rfl
  · rw [if_pos rfl, if_pos rfl]
    unfold runS
    rw [if_pos rfl]
    cases hg : r.o0.isG with
    | false =>
      rw [if_neg Bool.false_ne_true]
      exact ⟨E0, E1, h.w0.skip _ hg, h.w1, h.l, h.l0, h.l1, h.g0, h.g1, h.f⟩
    | true =>
      rw [if_pos rfl]
      obtain ⟨s1, s2, s3, s4⟩ := step_cong r0 (h.l.trans h.l0.symm) (h.w0.lt hg).1 h.g0
      have q := h.w0.step ok0 (r0.fit hb2) hg
      rw [← s1, ← s2] at q
      refine ⟨_, E1, q, h.w1, (step_len _ _ _ _ _).trans h.l, (step_len _ _ _ _ _).trans h.l0, h.l1, s3, fun i h1 h2 => ?_, fun i h1 h2 => ?_⟩
      · exact (s4 i (by omega)).trans (h.g1 i h1 h2)
      · exact (s4 i h1).trans (h.f i h1 h2)
  · rw [if_neg (by decide), if_neg (by decide)]
    unfold runS
    rw [if_neg (by decide)]
    cases hg : r.o1.isG with
    | false =>
      rw [if_neg Bool.false_ne_true]
      exact ⟨E0, E1, h.w0, h.w1.skip _ hg, h.l, h.l0, h.l1, h.g0, h.g1, h.f⟩
    | true =>
      rw [if_pos rfl]
      obtain ⟨s1, s2, s3, s4⟩ := step_cong r1 (h.l.trans h.l1.symm) (h.w1.lt hg).1 h.g1
      have q := h.w1.step ok1 (r1.fit hb1) hg
      rw [← s1, ← s2] at q
      refine ⟨E0, _, h.w0, q, (step_len _ _ _ _ _).trans h.l, h.l0, (step_len _ _ _ _ _).trans h.l1, fun i h1 h2 => ?_, s3, fun i h1 h2 => ?_⟩
      · exact (s4 i (by omega)).trans (h.g0 i h1 h2)
      · exact (s4 i h2).trans (h.f i h1 h2)
theorem WI.fold (ok0 : c0.Ok) (ok1 : c1.Ok) (r0 : c0.Reg p0 a0 b0) (r1 : c1.Reg p1 a1 b1) (hb0 : b0 ≤ a1) (hb1 : b1 ≤ D0.length) (hb2 : b0 ≤ D0.length) : ∀ (ks : List Int) {n0 n1 : Nat} {r : Rn} {E0 E1 : List Int}, (∀ k ∈ ks, k = 0 ∨ k = 1) → WI c0 c1 p0 p1 D0 a0 b0 a1 b1 n0 n1 r E0 E1 →
    ∃ m0 m1 E0' E1', n0 + ks.count 0 ≤ m0 ∧ n1 + ks.count 1 ≤ m1 ∧ WI c0 c1 p0 p1 D0 a0 b0 a1 b1 m0 m1 (ks.foldl (runS c0 c1 p0 p1) r) E0' E1'
  | [], n0, n1, r, E0, E1, _, h => ⟨n0, n1, E0, E1, Nat.le_refl _, Nat.le_refl _, h⟩
  | k :: ks, n0, n1, r, E0, E1, hk, h => by
    obtain ⟨F0, F1, h1⟩ := h.step ok0 ok1 r0 r1 hb0 hb1 hb2 (hk k List.mem_cons_self)
    obtain ⟨m0, m1, G0, G1, q0, q1, h2⟩ := WI.fold ok0 ok1 r0 r1 hb0 hb1 hb2 ks (fun z hz => hk z (List.mem_cons_of_mem _ hz)) h1
    refine ⟨m0, m1, G0, G1, ?_, ?_, h2⟩
    · rcases hk k List.mem_cons_self with rfl | rfl
      · rw [if_pos rfl] at q0
        rw [List.count_cons_self]
        omega
      · rw [if_neg (by decide)] at q0
        rw [List.count_cons_of_ne (by decide)]
        exact q0
    · rcases hk k List.mem_cons_self with rfl | rfl
      · rw [if_pos rfl] at q1
        rw [List.count_cons_of_ne (by decide)]
        exact q1
      · rw [if_neg (by decide)] at q1
        rw [List.count_cons_self]
        omega
/-- what is left, and what is told, of two works apart -/
theorem run_apart (ok0 : c0.Ok) (ok1 : c1.Ok) (r0 : c0.Reg p0 a0 b0) (r1 : c1.Reg p1 a1 b1) (hb0 : b0 ≤ a1) (hb1 : b1 ≤ D0.length) (hb2 : b0 ≤ D0.length) (hb : Byt D0) {ks : List Int} (hk : ∀ k ∈ ks, k = 0 ∨ k = 1) :
    (runF c0 c1 p0 p1 ks D0).o0 = c0.endO D0 p0.1 ∧ (runF c0 c1 p0 p1 ks D0).o1 = c1.endO D0 p1.1 ∧ (runF c0 c1 p0 p1 ks D0).D.length = D0.length ∧
    ∀ i, (runF c0 c1 p0 p1 ks D0).D[i]? = if a0 ≤ i ∧ i < b0 then (c0.resD D0 p0.1 p0.2)[i]? else if a1 ≤ i ∧ i < b1 then (c1.resD D0 p1.1 p1.2)[i]? else D0[i]? := by
  have st : WI c0 c1 p0 p1 D0 a0 b0 a1 b1 0 0 (Rn.start D0) D0 D0 := ⟨OneI.start ok0 D0 p0, OneI.start ok1 D0 p1, rfl, rfl, rfl, fun _ _ _ => rfl, fun _ _ _ => rfl, fun _ _ _ => rfl⟩
  have hk' : ∀ z ∈ (ks ++ List.replicate 16 0 ++ List.replicate 16 1 : List Int), z = 0 ∨ z = 1 := fun z hz => by
    rcases List.mem_append.mp hz with hz | hz
    · rcases List.mem_append.mp hz with hz | hz
      · exact hk z hz
      · exact .inl (List.eq_of_mem_replicate hz)
    · exact .inr (List.eq_of_mem_replicate hz)
  obtain ⟨m0, m1, E0, E1, q0, q1, h⟩ := WI.fold ok0 ok1 r0 r1 hb0 hb1 hb2 _ hk' st
  have t0 := tot_le ok0
  have t1 := tot_le ok1
  rw [List.count_append, List.count_append, List.count_replicate_self] at q0 q1
  obtain ⟨e0, f0⟩ := h.w0.fin ok0 (r0.fit hb2) hb (by omega)
  obtain ⟨e1, f1⟩ := h.w1.fin ok1 (r1.fit hb1) hb (by omega)
  refine ⟨e0, e1, h.l, fun i => ?_⟩
  by_cases h0 : a0 ≤ i ∧ i < b0
  · rw [if_pos h0, ← f0]
    exact h.g0 i h0.1 h0.2
  · rw [if_neg h0]
    by_cases h1 : a1 ≤ i ∧ i < b1
    · rw [if_pos h1, ← f1]
      exact h.g1 i h1.1 h1.2
    · rw [if_neg h1]
      exact h.f i h0 h1
end
theorem shw_endO {c : Cf} {D : List Int} {so : Option Nat} (ok : c.Ok) : shw 1 1202 (.tuple (oT (c.endO D so))) := by
  unfold Cf.endO
  cases hb : c.bad D so with
  | true =>
    rw [if_pos rfl]
    exact shw_rng1
  | false =>
    rw [if_neg Bool.false_ne_true, oT_done]
    exact shw_dn (told_rng ok hb)

/-! ### two sets of one word -/
theorem run_skip0 {c0 c1 : Cf} {p0 p1 : Pl} : ∀ (j : Nat) {r : Rn}, r.o0.isG = false → (List.replicate j (0 : Int)).foldl (runS c0 c1 p0 p1) r = r
  | 0, _, _ => rfl
  | j + 1, r, h => by
    have e : runS c0 c1 p0 p1 r 0 = r := by
      unfold runS
      rw [if_pos rfl, h, if_neg Bool.false_ne_true]
    rw [List.replicate_succ, List.foldl_cons, e]
    exact run_skip0 j h
theorem run_skip1 {c0 c1 : Cf} {p0 p1 : Pl} : ∀ (j : Nat) {r : Rn}, r.o1.isG = false → (List.replicate j (1 : Int)).foldl (runS c0 c1 p0 p1) r = r
  | 0, _, _ => rfl
  | j + 1, r, h => by
    have e : runS c0 c1 p0 p1 r 1 = r := by
      unfold runS
      rw [if_neg (by decide), h, if_neg Bool.false_ne_true]
    rw [List.replicate_succ, List.foldl_cons, e]
    exact run_skip1 j h
theorem rep_snoc (k : Int) (j : Nat) : List.replicate (j + 1) k = List.replicate j k ++ [k] := List.replicate_succ'
/-- the steps of the first work, none beside it -/
theorem run_ones {c0 c1 : Cf} {p0 p1 : Pl} {D0 : List Int} (ok : c1.Ok) (fit : c1.Fit D0.length p1.1 p1.2) : ∀ (j : Nat) {n : Nat} {r : Rn}, OneI c1 D0 p1 n r.s1 r.o1 r.D →
    ∃ s1' o1' D', (List.replicate j (1 : Int)).foldl (runS c0 c1 p0 p1) r = ⟨r.s0, s1', D', r.o0, o1'⟩ ∧ OneI c1 D0 p1 (n + j) s1' o1' D'
  | 0, n, r, h => ⟨r.s1, r.o1, r.D, rfl, h⟩
  | j + 1, n, r, h => by
    obtain ⟨s1, o1, D, e, q⟩ := run_ones (c0 := c0) (p0 := p0) ok fit j h
    rw [rep_snoc, List.foldl_append, e]
    show ∃ s1' o1' D', runS c0 c1 p0 p1 ⟨r.s0, s1, D, r.o0, o1⟩ 1 = ⟨r.s0, s1', D', r.o0, o1'⟩ ∧ _
    unfold runS
    rw [if_neg (by decide)]
    cases hg : o1.isG with
    | false =>
      rw [if_neg Bool.false_ne_true]
      exact ⟨_, _, _, rfl, q.skip _ hg⟩
    | true =>
      rw [if_pos rfl]
      exact ⟨_, _, _, rfl, q.step ok fit hg⟩
theorem run_zeros {c0 c1 : Cf} {p0 p1 : Pl} {D0 : List Int} (ok : c0.Ok) (fit : c0.Fit D0.length p0.1 p0.2) (hbad : c0.bad D0 p0.1 = false) : ∀ (j : Nat) {r : Rn}, j ≤ c0.tot → r.s0 = Ws.start → r.o0 = .going → r.D = D0 →
    ∃ s0' D', (List.replicate j (0 : Int)).foldl (runS c0 c1 p0 p1) r = ⟨s0', r.s1, D', c0.told s0', r.o1⟩ ∧ s0'.done = j ∧ c0.Inv s0' ∧ c0.Inv2 s0' ∧ c0.Tr D0 p0.1 p0.2 j s0' D'
  | 0, r, hj, h1, h2, h3 => by
    refine ⟨Ws.start, D0, ?_, rfl, inv_start c0, inv2_start c0 ok, tr_start ok⟩
    obtain ⟨s0, s1, D, o0, o1⟩ := r
    cases h1
    cases h2
    cases h3
    unfold Cf.told
    rw [if_pos (show Ws.start.done < c0.tot from tot_pos ok)]
    rfl
  | j + 1, r, hj, h1, h2, h3 => by
    obtain ⟨s0, D, e, q1, q2, q3, q4⟩ := run_zeros (c1 := c1) (p1 := p1) ok fit hbad j (by omega) h1 h2 h3
    have hlt : s0.done < c0.tot := by omega
    rw [rep_snoc, List.foldl_append, e]
    show ∃ s0' D', runS c0 c1 p0 p1 ⟨s0, r.s1, D, c0.told s0, r.o1⟩ 0 = ⟨s0', r.s1, D', c0.told s0', r.o1⟩ ∧ _
    unfold runS
    rw [if_pos rfl, if_pos (show (c0.told s0).isG = true by unfold Cf.told; rw [if_pos hlt]; rfl)]
    rcases q4.step ok fit (by omega) with ⟨_, hb, _⟩ | ⟨e1, tr'⟩
    · rw [hbad] at hb
      exact nomatch hb
    · rcases step_inv (D := D) (so := p0.1) (to := p0.2) ok q2 hlt with ⟨z, _⟩ | ⟨_, hd, inv'⟩
      · rw [e1] at z
        exact absurd z (told_ne _ _)
      · have q3' := step_inv2 (D := D) (so := p0.1) (to := p0.2) q2 q3 hlt
        refine ⟨_, _, ?_, by omega, inv', q3', tr'⟩
        show (⟨_, _, _, (c0.step s0 D p0.1 p0.2).2.2, _⟩ : Rn) = ⟨_, _, _, c0.told _, _⟩
        rw [e1]
/-- the writes of the first work, on whatever bytes -/
theorem run_writes {c0 c1 : Cf} {p0 p1 : Pl} {N : List Int} (ok : c0.Ok) (hg : c0.isGet = false) (hN : N.length = c0.wri.n) : ∀ (t : Nat) {r : Rn}, t ≤ c0.wrs → r.o0 = c0.told r.s0 → r.s0.done = c0.rds → c0.Inv r.s0 → c0.Inv2 r.s0 → c0.mk r.s0 = N → c0.place p0.1 p0.2 + c0.wri.n ≤ r.D.length →
    ∃ s0', (List.replicate t (0 : Int)).foldl (runS c0 c1 p0 p1) r = ⟨s0', r.s1, putSeg r.D (c0.place p0.1 p0.2) (N.take t), c0.told s0', r.o1⟩ ∧ s0'.done = c0.rds + t ∧ c0.Inv s0' ∧ c0.Inv2 s0' ∧ c0.mk s0' = N ∧ s0'.res = r.s0.res
  | 0, r, ht, h1, h2, h3, h4, h5, h6 => by
    refine ⟨r.s0, ?_, h2, h3, h4, h5, rfl⟩
    rw [List.take_zero, putSeg_nil, ← h1]
    rfl
  | t + 1, r, ht, h1, h2, h3, h4, h5, h6 => by
    obtain ⟨s0, e, q1, q2, q3, q4, q5⟩ := run_writes (c1 := c1) (p1 := p1) ok hg hN t (by omega) h1 h2 h3 h4 h5 h6
    have e1 : c0.tot = c0.rds + c0.wrs := rfl
    have e2 : c0.rds = c0.srd + c0.trd := rfl
    have hlt : s0.done < c0.tot := by omega
    have hw : c0.wrs = c0.wri.n := (wrs_get (c := c0) (by omega)).2
    rw [rep_snoc, List.foldl_append, e]
    show ∃ s0', runS c0 c1 p0 p1 ⟨s0, r.s1, putSeg r.D (c0.place p0.1 p0.2) (N.take t), c0.told s0, r.o1⟩ 0 = ⟨s0', r.s1, putSeg r.D (c0.place p0.1 p0.2) (N.take (t + 1)), c0.told s0', r.o1⟩ ∧ _
    unfold runS
    rw [if_pos rfl, if_pos (show (c0.told s0).isG = true by unfold Cf.told; rw [if_pos hlt]; rfl)]
    have sw := step_wr (c := c0) (st := s0) (D := putSeg r.D (c0.place p0.1 p0.2) (N.take t)) (so := p0.1) (to := p0.2) (by omega) (by omega)
    have i1 := step_inv (D := putSeg r.D (c0.place p0.1 p0.2) (N.take t)) (so := p0.1) (to := p0.2) ok q2 hlt
    have i2 := step_inv2 (D := putSeg r.D (c0.place p0.1 p0.2) (N.take t)) (so := p0.1) (to := p0.2) q2 q3 hlt
    rw [sw] at i1 i2
    rcases i1 with ⟨z, _⟩ | ⟨_, hd, inv'⟩
    · exact absurd z (told_ne _ _)
    refine ⟨c0.stN s0, ?_, ?_, inv', i2, ?_, ?_⟩
    · show (⟨_, _, (c0.step s0 _ p0.1 p0.2).2.1, (c0.step s0 _ p0.1 p0.2).2.2, _⟩ : Rn) = _
      rw [sw]
      have en : c0.ptN s0 (putSeg r.D (c0.place p0.1 p0.2) (N.take t)) p0.1 p0.2 = putSeg r.D (c0.place p0.1 p0.2) (N.take (t + 1)) := by
        unfold Cf.ptN
        rw [stN_nw q3 (by omega), q4, q1, Nat.add_sub_cancel_left]
        exact putSeg_snoc (by rw [hN]; exact h6) (by rw [hN]; omega)
      show (⟨_, _, c0.ptN s0 _ p0.1 p0.2, _, _⟩ : Rn) = _
      rw [en]
    · have hd : (c0.stN s0).done = s0.done + 1 := hd
      omega
    · rw [← q4]
      unfold Cf.stN
      split <;> exact mk_cong rfl rfl rfl
    · rw [← q5]
      unfold Cf.stN
      split <;> rfl
theorem run_lost {t0 t1 : S5} {v0 v1 : Int} {D0 : List Int} (ok0 : (Cf.set t0 v0).Ok) (ok1 : (Cf.set t1 v1).Ok) (hn : t1.n = t0.n) (h0 : t0.whole = false) (h1 : t1.whole = false) (hD : 3 + t0.n ≤ D0.length) (hb : Byt D0) :
    (runF (.set t0 v0) (.set t1 v1) (none, some 3) (none, some 3) (List.replicate t0.n 0 ++ List.replicate 8 1) D0).o0 = .done none ∧
    (runF (.set t0 v0) (.set t1 v1) (none, some 3) (none, some 3) (List.replicate t0.n 0 ++ List.replicate 8 1) D0).o1 = .done none ∧
    (runF (.set t0 v0) (.set t1 v1) (none, some 3) (none, some 3) (List.replicate t0.n 0 ++ List.replicate 8 1) D0).D = putSeg D0 3 (wr5 t0 (seg D0 3 t0.n) v0) := by
  have n4 := (ok0.t t0 rfl).n4
  have n0 := (ok0.t t0 rfl).n0
  have fit0 : (Cf.set t0 v0).Fit D0.length none (some 3) := ⟨fun x e => (nomatch e), fun x e => by cases e; exact ⟨3, rfl, hD⟩⟩
  have fit1 : (Cf.set t1 v1).Fit D0.length none (some 3) := ⟨fun x e => (nomatch e), fun x e => by cases e; exact ⟨3, rfl, by omega⟩⟩
  have trd0 : (Cf.set t0 v0).trd = t0.n := by rw [trd_is (c := .set t0 v0) rfl, if_neg (by rw [h0]; exact Bool.false_ne_true)]
  have trd1 : (Cf.set t1 v1).trd = t1.n := by rw [trd_is (c := .set t1 v1) rfl, if_neg (by rw [h1]; exact Bool.false_ne_true)]
  have rds0 : (Cf.set t0 v0).rds = t0.n := by show 0 + (Cf.set t0 v0).trd = _; omega
  have tot0 : (Cf.set t0 v0).tot = t0.n + t0.n := by show (Cf.set t0 v0).rds + t0.n = _; omega
  have tot1 : (Cf.set t1 v1).tot = t1.n + t1.n := by show 0 + (Cf.set t1 v1).trd + t1.n = _; omega
  unfold runF
  rw [List.foldl_append, List.foldl_append, List.foldl_append]
  obtain ⟨s0, DA, eA, qd, qi, qi2, qt⟩ := run_zeros (c1 := .set t1 v1) (p0 := (none, some 3)) (p1 := (none, some 3)) ok0 fit0 (chk_bad rfl) t0.n (r := Rn.start D0) (by omega) rfl rfl rfl
  have hDA : DA = D0 := by
    rw [qt.D, rds0, Nat.sub_self, List.take_zero, putSeg_nil]
  subst hDA
  rw [eA]
  obtain ⟨s1, o1, D1, eB, qB⟩ := run_ones (c0 := .set t0 v0) (p0 := (none, some 3)) (p1 := (none, some 3)) ok1 fit1 8 (n := 0) (r := ⟨s0, Ws.start, DA, (Cf.set t0 v0).told s0, .going⟩) (OneI.start ok1 DA (none, some 3))
  have eB : List.foldl (runS (.set t0 v0) (.set t1 v1) (none, some 3) (none, some 3)) ⟨s0, (Rn.start DA).s1, DA, (Cf.set t0 v0).told s0, (Rn.start DA).o1⟩ (List.replicate 8 1) = ⟨s0, s1, D1, (Cf.set t0 v0).told s0, o1⟩ := eB
  rw [eB]
  obtain ⟨eo1, eD1⟩ := qB.fin ok1 fit1 hb (by omega)
  have bd1 : (Cf.set t1 v1).bad DA none = false := chk_bad rfl
  have eo1 : o1 = .done none := by
    rw [eo1]
    unfold Cf.endO
    rw [show (Cf.set t1 v1).bad DA ((none, some 3) : Pl).1 = false from bd1, if_neg Bool.false_ne_true]
    rfl
  have sl : (seg DA 3 t1.n).length = t1.n := seg_len (by omega)
  have eD1 : D1 = putSeg DA 3 (wr5 t1 (seg DA 3 t1.n) v1) := by
    rw [eD1]
    unfold Cf.resD Cf.outD
    rw [show (Cf.set t1 v1).bad DA ((none, some 3) : Pl).1 = false from bd1, if_neg Bool.false_ne_true]
    rfl
  have wl : (wr5 t1 (seg DA 3 t1.n) v1).length = t0.n := (wr5_len sl).trans hn
  have lD1 : D1.length = DA.length := by rw [eD1]; exact putSeg_len (by rw [wl]; exact hD)
  have mN : (Cf.set t0 v0).mk s0 = (Cf.set t0 v0).mkAt DA none (some 3) := by
    refine mk_cong ?_ ?_ (qt.res (by show 0 ≤ _; omega))
    · rw [qt.sb]
      show seg DA 0 (min t0.n 0) = seg DA 0 0
      rw [Nat.min_zero]
    · rw [qt.tb, trd0]
      show seg DA 3 (min (t0.n - 0) t0.n) = seg DA 3 t0.n
      rw [Nat.sub_zero, Nat.min_self]
  have lN := mkAt_len ok0 fit0 rfl
  obtain ⟨s0', eC, c1, c2, c3, c4, c5⟩ := run_writes (c1 := .set t1 v1) (p0 := (none, some 3)) (p1 := (none, some 3)) ok0 rfl lN t0.n (r := ⟨s0, s1, D1, (Cf.set t0 v0).told s0, o1⟩) (Nat.le_refl _) rfl (qd.trans rds0.symm) qi qi2 mN (by show 3 + t0.n ≤ D1.length; omega)
  have e16 : List.replicate 16 (0 : Int) = List.replicate t0.n 0 ++ List.replicate (16 - t0.n) 0 := by
    rw [List.replicate_append_replicate, show t0.n + (16 - t0.n) = 16 by omega]
  have told0 : (Cf.set t0 v0).told s0' = .done none := by
    unfold Cf.told
    rw [if_neg (by omega)]
    rfl
  rw [e16, List.foldl_append, eC, told0, run_skip0 _ rfl, run_skip1 _ (by show o1.isG = false; rw [eo1]; rfl)]
  refine ⟨rfl, eo1, ?_⟩
  show putSeg D1 3 (((Cf.set t0 v0).mkAt DA none (some 3)).take t0.n) = _
  rw [List.take_of_length_le (by rw [lN]; exact Nat.le_refl _), mkAt_eq ok0 fit0 hb rfl, eD1]
  exact putSeg_putSeg (by rw [wl]; exact hD) (by rw [wl]; exact (wr5_len (seg_len hD)).symm)

def spBox (K : PySem.W.Frag) (A : Ad) : Sp := fun vs H Q _ => ∃ (b g : Addr) (ds : List Int) (i : Int), vs = [.ref b] ∧ H b = some (.lst [.ref g, .int i]) ∧ H g = some (.lst (ds.map V.int)) ∧ b ≠ g ∧ 0 ≤ i ∧ i < 2 ^ 40 ∧
  ∀ H' j, i ≤ j → j ≤ i + 1000 → KBs H H' [b] → H' b = some (.lst [.ref g, .int j]) → Q (.bl true) H'
def sp__law_apart := spBox
def sp__law_lost := spBox
section
variable {K : PySem.W.Frag} {A : Ad} {H0 H : Hp} {S : List Addr} {L X : List (Addr × Ent)} {I : List (V × PyData)} {Q : VK} {E : XK}
theorem h_box {b g : Addr} {ds : List Int} {i : Int} (n : Nat) (h : Led K H0 S H L I) (e : L[n]? = some (b, .raw (.lst [.ref g, .int i]))) (e2 : L[n + 1]? = some (g, .raw (.lst (ds.map V.int)))) (h0 : 0 ≤ i) (h1 : i < 2 ^ 40) (hs : H0 b = none ∨ b ∈ S)
    (k : ∀ H' j, i ≤ j → j ≤ i + 1000 → Led K H0 S H' (L.set n (b, .raw (.lst [.ref g, .int j]))) I → Q (.bl true) H') : spBox K A [.ref b] H Q E :=
  ⟨b, g, ds, i, rfl, h.raw n e, h.raw (n + 1) e2, h.ne n (n + 1) e e2 (by omega), h0, h1, fun H' j j0 j1 kb he => k H' j j0 j1 (h.wr (e' := .raw (.lst [.ref g, .int j])) n e kb (h.raw n e) rfl he hs)⟩
theorem h_run {w0 dx0 pb0 pt0 pn0 w1 dx1 pb1 pt1 pn1 d wl pl r0 r1 ol : Addr} {sv0 tv0 sv1 tv1 : V} {c0 c1 : Cf} {p0 p1 : Pl} {D ks : List Int}
    (h : Led K H0 S H ((runE A w0 dx0 pb0 pt0 pn0 sv0 tv0 c0 Ws.start w1 dx1 pb1 pt1 pn1 sv1 tv1 c1 Ws.start d wl pl r0 r1 p0 p1 D ++ [(ol, .raw (.lst (ks.map V.int)))]) ++ X) I)
    (i1 : Im K H sv0 (oD c0.src)) (i2 : Im K H tv0 (oD c0.tgt)) (i3 : Im K H sv1 (oD c1.src)) (i4 : Im K H tv1 (oD c1.tgt)) (ok0 : c0.Ok) (ok1 : c1.Ok) (fit0 : c0.Fit D.length p0.1 p0.2) (fit1 : c1.Fit D.length p1.1 p1.2) (hks : ∀ k ∈ ks, k = 0 ∨ k = 1) (hkl : ks.length ≤ 1000)
    (hS : ∀ b ∈ [w0, pb0, pt0, w1, pb1, pt1, d], H0 b = none ∨ b ∈ S)
    (k : ∀ tl t0 t1 H', (H0 tl = none ∨ tl ∈ S) → Led K H0 S H' ([(tl, .raw (.lst [.ref t0, .ref t1])), (d, .raw (.lst ((runF c0 c1 p0 p1 ks D).D.map V.int))), (wl, .raw (.lst [.ref w0, .ref w1])), (pl, .raw (.lst [.ref r0, .ref r1])), (r0, .raw (.lst [oN p0.1, oN p0.2])), (r1, .raw (.lst [oN p1.1, oN p1.2])), (ol, .raw (.lst (ks.map V.int)))] ++ X)
      ((.ref t0, .tuple (oT (runF c0 c1 p0 p1 ks D).o0)) :: (.ref t1, .tuple (oT (runF c0 c1 p0 p1 ks D).o1)) :: I) → Q (.ref tl) H') : sp__law_run K A [.ref wl, .ref pl, .ref ol, .ref d] H Q E := by
  refine ⟨w0, dx0, pb0, pt0, pn0, sv0, tv0, c0, w1, dx1, pb1, pt1, pn1, sv1, tv1, c1, d, wl, pl, r0, r1, ol, p0, p1, D, ks, rfl, h.pre _ _ (fun n v d' e => ?_), ok0, ok1, fit0, fit1, hks, hkl, fun tl t0 t1 H' ntl h2 => ?_⟩
  · match n, e with
    | 0, e =>
      cases e
      exact i1
    | 1, e =>
      cases e
      exact i2
    | 2, e =>
      cases e
      exact i3
    | 3, e =>
      cases e
      exact i4
  · refine k tl t0 t1 H' (h.fr ntl) (h.backA [0, 1, 2, 4, 5, 6, 8] h2 (fun b hb => ?_) (fun e he => ?_) (fun b hb => hS b ?_))
    · simpa [adr, runE, wkE] using hb
    · simp only [List.mem_cons, List.not_mem_nil, or_false] at he
      rcases he with rfl | rfl | rfl | rfl | rfl | rfl | rfl
      · exact .inr ntl
      all_goals exact .inl (by simp [runE, wkE])
    · simpa [adr, runE, wkE] using hb
end
theorem run_byt {c0 c1 : Cf} {p0 p1 : Pl} {D0 : List Int} {a0 b0 a1 b1 : Nat} (ok0 : c0.Ok) (ok1 : c1.Ok) (r0 : c0.Reg p0 a0 b0) (r1 : c1.Reg p1 a1 b1) (hb0 : b0 ≤ a1) (hb1 : b1 ≤ D0.length) (hb2 : b0 ≤ D0.length) (hb : Byt D0) {ks : List Int} (hk : ∀ k ∈ ks, k = 0 ∨ k = 1) : Byt (runF c0 c1 p0 p1 ks D0).D := fun x hx => by
  obtain ⟨i, hi, e⟩ := List.getElem_of_mem hx
  have e : (runF c0 c1 p0 p1 ks D0).D[i]? = some x := by rw [List.getElem?_eq_getElem hi, e]
  rw [(run_apart ok0 ok1 r0 r1 hb0 hb1 hb2 hb hk).2.2.2 i] at e
  split at e
  · exact (resD_byt ok0 (r0.fit hb2) hb).1 x (List.mem_of_getElem? e)
  · split at e
    · exact (resD_byt ok1 (r1.fit hb1) hb).1 x (List.mem_of_getElem? e)
    · exact hb x (List.mem_of_getElem? e)
theorem run_same {c0 c1 : Cf} {p0 p1 : Pl} {D0 : List Int} {a0 b0 a1 b1 : Nat} (ok0 : c0.Ok) (ok1 : c1.Ok) (r0 : c0.Reg p0 a0 b0) (r1 : c1.Reg p1 a1 b1) (hb0 : b0 ≤ a1) (hb1 : b1 ≤ D0.length) (hb2 : b0 ≤ D0.length) (hb : Byt D0) {ks ks' : List Int} (hk : ∀ k ∈ ks, k = 0 ∨ k = 1) (hk' : ∀ k ∈ ks', k = 0 ∨ k = 1) :
    (runF c0 c1 p0 p1 ks D0).D = (runF c0 c1 p0 p1 ks' D0).D := List.ext_getElem? fun i => by
  rw [(run_apart ok0 ok1 r0 r1 hb0 hb1 hb2 hb hk).2.2.2 i, (run_apart ok0 ok1 r0 r1 hb0 hb1 hb2 hb hk').2.2.2 i]
/-- the pair of what is told and the bytes -/
theorem dp_pair {K : PySem.W.Frag} {H0 H : Hp} {S : List Addr} {L : List (Addr × Ent)} {I : List (V × PyData)} {x tl t0 t1 d : Addr} {o0 o1 : List PyData} {D : List Int} (h : Led K H0 S H L I) (n m l : Nat) (e1 : L[n]? = some (x, .raw (.lst [.ref tl, .ref d]))) (e2 : L[m]? = some (tl, .raw (.lst [.ref t0, .ref t1]))) (e3 : L[l]? = some (d, .raw (.lst (D.map V.int))))
    (i0 : Im K H (.ref t0) (.tuple o0)) (i1 : Im K H (.ref t1) (.tuple o1)) : Dp K H (.ref x) (.list [.list [.tuple o0, .tuple o1], .list (D.map PyData.int)]) :=
  .lst (h.sqL n e1) (.cons (.lst (h.sqL m e2) (.cons i0.dp (.cons i1.dp .nil))) (.cons (h.dpI l e3) .nil))
theorem shw_pair {o0 o1 : List PyData} {D : List Int} (h0 : shw 1 1202 (.tuple o0)) (h1 : shw 1 1202 (.tuple o1)) (hD : ∀ z ∈ D, z.natAbs < 10 ^ 12) (hl : D.length ≤ 100) : shw 3 8820 (.list [.list [.tuple o0, .tuple o1], .list (D.map PyData.int)]) := by
  have q1 : shw 2 4409 (.list [.tuple o0, .tuple o1]) := (shw_list (n := 1) (W := 1202) (ds := [.tuple o0, .tuple o1]) fun x hx => by
    rcases List.mem_cons.mp hx with rfl | hx
    · exact h0
    · cases List.mem_singleton.mp hx
      exact h1).up (by decide) (by show 2 * 1203 ≤ 4409; decide)
  have q2 : shw 2 4409 (.list (D.map PyData.int)) := (shw_ints hD).up (by decide) (by omega)
  exact shw_list (n := 2) (W := 4409) (ds := [.list [.tuple o0, .tuple o1], .list (D.map PyData.int)]) fun x hx => by
    rcases List.mem_cons.mp hx with rfl | hx
    · exact q1
    · cases List.mem_singleton.mp hx
      exact q2
theorem reg_pl {c : Cf} (ok : c.Ok) (a : Nat) : c.Reg (plc c.src (a + 1), plc c.tgt (a + 5)) (a + 1) (a + 9) :=
  ⟨fun x e => ⟨a + 1, by show plc c.src (a + 1) = _; rw [e]; rfl, Nat.le_refl _, by have := (ok.s x e).n4; omega⟩, fun x e => ⟨a + 5, by show plc c.tgt (a + 5) = _; rw [e]; rfl, by omega, by have := (ok.t x e).n4; omega⟩⟩

def t__law_apart (K : PySem.W.Frag) (A : Ad) : TS :=
  (tSeq (tAsg (tLst (tCons (tCall (sp__law_some_work K A) [] E0 (tCons (mV 0) tNil)) (tCons (tCall (sp__law_some_work K A) [] E0 (tCons (mV 0) tNil)) tNil))) (gName 1))
  (tSeq (tAsg (tLc (jR1 (tCons (tC (.int 20)) tNil)) (gName 4) tYes (tCall (sp__law_draw K A) [] E0 (tCons (mV 0) (tCons (tC (.int 256)) tNil))) [4]) (gName 2))
  (tSeq (tAsg (tLst tNil) (gName 3))
  (tSeq (tFor (jR1 (tCons (tC (.int 2)) tNil)) (gName 4)
    (tSeq (tAsg (tLst (tCons (tC .non) (tCons (tC .non) tNil))) (gName 5))
  (mCut (mIf (mTest (tOp mNotN (tOp (rIx K) (tOp (rIx K) (mV 1) (mV 4)) (tC (.int 1))) (tC .non)))
    (tAsg (tOp (mAdd K) (tOp mMul (tC (.int 10)) (mV 4)) (tC (.int 1))) (gSub (mV 5) (tC (.int 0)) rSetL))
    tNext)
  (mCut (mIf (mTest (tOp mNotN (tOp (rIx K) (tOp (rIx K) (mV 1) (mV 4)) (tC (.int 2))) (tC .non)))
    (tAsg (tOp (mAdd K) (tOp mMul (tC (.int 10)) (mV 4)) (tC (.int 5))) (gSub (mV 5) (tC (.int 1)) rSetL))
    tNext)
  (tDrop (tBM K "list" rAppend (mV 3) (tCons (mV 5) tNil)))))))
  (tSeq (tAsg (tLc (jR1 (tCons (tC (.int 20)) tNil)) (gName 4) tYes (tCall (sp__law_draw K A) [] E0 (tCons (mV 0) (tCons (tC (.int 2)) tNil))) [4]) (gName 6))
  (tSeq (tAsg (tLc (jL K (mV 1)) (gName 5) tYes (tMake A.c_Work (sp_Work___init__ K A) [] E0 (tCons (tOp (rIx K) (mV 5) (tC (.int 0))) (tCons (tOp (rIx K) (mV 5) (tC (.int 1))) (tCons (tOp (rIx K) (mV 5) (tC (.int 2))) (tCons (tOp (rIx K) (mV 5) (tC (.int 3))) tNil))))) [5]) (gName 7))
  (tSeq (tAsg (tLc (jL K (mV 1)) (gName 5) tYes (tMake A.c_Work (sp_Work___init__ K A) [] E0 (tCons (tOp (rIx K) (mV 5) (tC (.int 0))) (tCons (tOp (rIx K) (mV 5) (tC (.int 1))) (tCons (tOp (rIx K) (mV 5) (tC (.int 2))) (tCons (tOp (rIx K) (mV 5) (tC (.int 3))) tNil))))) [5]) (gName 8))
  (tSeq (tAsg (tCB (hListOf K) (tCons (mV 2) tNil)) (gName 9))
  (tSeq (tAsg (tCall (sp__law_run K A) [] E0 (tCons (mV 7) (tCons (mV 3) (tCons (mV 6) (tCons (mV 2) tNil))))) (gName 10))
  (tRet (tCall (sp__law_same K A) [] E0 (tCons (tLst (tCons (mV 10) (tCons (mV 2) tNil))) (tCons (tLst (tCons (tCall (sp__law_run K A) [] E0 (tCons (mV 8) (tCons (mV 3) (tCons (tLst tNil) (tCons (mV 9) tNil))))) (tCons (mV 9) tNil))) tNil)))))))))))))
theorem rd__law_apart {K : PySem.W.Frag} {A : Ad} {vs : List V} {H : Hp} {Q : VK} {E : XK} (h : sp__law_apart K A vs H Q E) : t__law_apart K A { nx := fun _ H' => Q .non H', rt := Q } (start ["_law_box", "_law_rows", "_law_data", "_law_places", "_law_k", "_law_row", "_law_order", "_law_works", "_law_again", "_law_other", "_law_told_here"] vs) H := by
  obtain ⟨b, g, ds, i, rfl, hb, hg, hbg, h0, h1, k⟩ := h
  show t__law_apart K A _ [some (.ref b), none, none, none, none, none, none, none, none, none, none] H
  unfold t__law_apart
  have hL : Led K H [b] H [(b, .raw (.lst [.ref g, .int i])), (g, .raw (.lst (ds.map V.int)))] [] := Led.mk2 hb hg hbg
  walk_at "gs"
  refine h_swork 0 hL rfl rfl (by omega) (by omega) (.inr (by simp)) fun q0 H1 j1 c0 sv0 tv0 j10 j11 ok0 nq0 h1 => ?_
  walk_at "gs"
  refine h_swork 1 h1 rfl rfl (by omega) (by omega) (.inr (by simp)) fun q1 H2 j2 c1 sv1 tv1 j20 j21 ok1 nq1 h2 => ?_
  walk_at "gs"
  rename_i rw H3 nrw h3
  have h3 : Led K H [b] H3 [(rw, .raw (.lst [.ref q0, .ref q1])), (q1, .raw (.lst [.str c1.kind, sv1, tv1, oI c1.val])), (q0, .raw (.lst [.str c0.kind, sv0, tv0, oI c0.val])), (b, .raw (.lst [.ref g, .int j2])), (g, .raw (.lst (ds.map V.int)))] [(sv1, oD c1.src), (tv1, oD c1.tgt), (sv0, oD c0.src), (tv0, oD c0.tgt)] := h3
  clear hL h1 h2
  have h4 : Led K H [b] H3 [(b, .raw (.lst [.ref g, .int j2])), (g, .raw (.lst (ds.map V.int))), (rw, .raw (.lst [.ref q0, .ref q1])), (q1, .raw (.lst [.str c1.kind, sv1, tv1, oI c1.val])), (q0, .raw (.lst [.str c0.kind, sv0, tv0, oI c0.val]))] [(sv1, oD c1.src), (tv1, oD c1.tgt), (sv0, oD c0.src), (tv0, oD c0.tgt)] := h3.pick [3, 4, 0, 1, 2]
  clear h3
  refine lcR h4 (fun r m H7 => ∃ (j7 : Int) (ns : List Int), (j2 ≤ j7 ∧ j7 ≤ j2 + m) ∧ ns.length = m ∧ Byt ns ∧ (H r = none ∨ r ∈ [b]) ∧
      Led K H [b] H7 [(r, .raw (.lst (ns.map V.int))), (b, .raw (.lst [.ref g, .int j7])), (g, .raw (.lst (ds.map V.int))), (rw, .raw (.lst [.ref q0, .ref q1])), (q1, .raw (.lst [.str c1.kind, sv1, tv1, oI c1.val])), (q0, .raw (.lst [.str c0.kind, sv0, tv0, oI c0.val]))] [(sv1, oD c1.src), (tv1, oD c1.tgt), (sv0, oD c0.src), (tv0, oD c0.tgt)])
    (fun r H7 nr h7 => ⟨j2, [], by omega, rfl, fun h hh => (nomatch hh), nr, h7⟩) ?_ ?_
  · rintro r m H7 hm ⟨j7, ns, hj7, hns, bns, nr, h7⟩
    walk_at "gs"
    rename_i z H8 hz0 hz1 h8
    obtain ⟨acc, a1, a2, a3⟩ := h_accL (y := .int z) 0 h8 rfl nr (by rw [List.length_map, sizeLine_eq]; omega)
    refine ⟨acc, a1, a2, j7 + 1, ns ++ [z], by omega, by rw [List.length_append, hns]; rfl, fun x hx => ?_, nr, ?_⟩
    · rcases List.mem_append.mp hx with hx | hx
      · exact bns x hx
      · cases List.mem_singleton.mp hx
        exact ⟨hz0, hz1⟩
    · rw [← map_snoc]
      exact a3
  rintro d H7 ⟨j7, D0, hj7, hD0, bD, nd, h7⟩
  have hD20 : D0.length = 20 := hD0
  clear h4 hD0
  walk_at "gs"
  rename_i pl H8 npl h8
  have T0 : True := trivial
  refine lpR (fun i σ H9 => ∃ (y4 y5 : Option V), σ = [some (.ref b), some (.ref rw), some (.ref d), some (.ref pl), y4, y5, none, none, none, none, none] ∧ ((i = 0 ∧ Led K H [b] H9 ((pl, .raw (.lst [])) :: (d, .raw (.lst (D0.map V.int))) :: (b, .raw (.lst [.ref g, .int j7])) :: (g, .raw (.lst (ds.map V.int))) :: (rw, .raw (.lst [.ref q0, .ref q1])) :: (q1, .raw (.lst [.str c1.kind, sv1, tv1, oI c1.val])) :: (q0, .raw (.lst [.str c0.kind, sv0, tv0, oI c0.val])) :: []) [(sv1, oD c1.src), (tv1, oD c1.tgt), (sv0, oD c0.src), (tv0, oD c0.tgt)]) ∨ (i = 1 ∧ ∃ r0, (H r0 = none ∨ r0 ∈ [b]) ∧ Led K H [b] H9 ((pl, .raw (.lst [.ref r0])) :: (r0, .raw (.lst [oN (plc c0.src 1), oN (plc c0.tgt 5)])) :: (d, .raw (.lst (D0.map V.int))) :: (b, .raw (.lst [.ref g, .int j7])) :: (g, .raw (.lst (ds.map V.int))) :: (rw, .raw (.lst [.ref q0, .ref q1])) :: (q1, .raw (.lst [.str c1.kind, sv1, tv1, oI c1.val])) :: (q0, .raw (.lst [.str c0.kind, sv0, tv0, oI c0.val])) :: []) [(sv1, oD c1.src), (tv1, oD c1.tgt), (sv0, oD c0.src), (tv0, oD c0.tgt)]) ∨ (i = 2 ∧ ∃ r0 r1, (H r0 = none ∨ r0 ∈ [b]) ∧ Led K H [b] H9 ((pl, .raw (.lst [.ref r0, .ref r1])) :: (r0, .raw (.lst [oN (plc c0.src 1), oN (plc c0.tgt 5)])) :: (r1, .raw (.lst [oN (plc c1.src 11), oN (plc c1.tgt 15)])) :: (d, .raw (.lst (D0.map V.int))) :: (b, .raw (.lst [.ref g, .int j7])) :: (g, .raw (.lst (ds.map V.int))) :: (rw, .raw (.lst [.ref q0, .ref q1])) :: (q1, .raw (.lst [.str c1.kind, sv1, tv1, oI c1.val])) :: (q0, .raw (.lst [.str c0.kind, sv0, tv0, oI c0.val])) :: []) [(sv1, oD c1.src), (tv1, oD c1.tgt), (sv0, oD c0.src), (tv0, oD c0.tgt)])))
    ⟨_, _, rfl, .inl ⟨rfl, h8⟩⟩ ?_ ?_
  · clear h8 h7
    rintro i σ H9 hi ⟨y4, y5, rfl, hz⟩
    have hi : i < 2 := hi
    rcases hz with ⟨rfl, h9⟩ | ⟨rfl, r0, nr0, h9⟩ | ⟨rfl, _⟩
    · walk_at "gs"
      rename_i r H10 nr h10
      refine h_cut (fun σ H11 => σ = [some (.ref b), some (.ref rw), some (.ref d), some (.ref pl), some (.int (0 + (0 : Nat))), some (.ref r), none, none, none, none, none] ∧ Led K H [b] H11 ((r, .raw (.lst [oN (plc c0.src 1), .non])) :: (pl, .raw (.lst [])) :: (d, .raw (.lst (D0.map V.int))) :: (b, .raw (.lst [.ref g, .int j7])) :: (g, .raw (.lst (ds.map V.int))) :: (rw, .raw (.lst [.ref q0, .ref q1])) :: (q1, .raw (.lst [.str c1.kind, sv1, tv1, oI c1.val])) :: (q0, .raw (.lst [.str c0.kind, sv0, tv0, oI c0.val])) :: []) [(sv1, oD c1.src), (tv1, oD c1.tgt), (sv0, oD c0.src), (tv0, oD c0.tgt)]) ?_ ?_
      · walk_at "gs"
        refine h_ixL 5 h10 rfl rfl ?_
        walk_at "gs"
        refine h_ixL 7 h10 rfl rfl ?_
        walk_at "gs"
        refine h_notNo (h10.im 2 _ _ rfl) ?_
        walk_at "gs"
        refine h_brbN (fun hb => ?_) (fun hb => ?_)
        · walk_at "gs"
          rename_i H11 h11
          have e : oN (plc c0.src 1) = .int 1 := by unfold plc; rw [hb]; rfl
          rw [e]
          first | exact h11 | exact ⟨rfl, h11⟩
        · walk_at "gs"
          have e : oN (plc c0.src 1) = .non := by unfold plc; rw [hb]; rfl
          rw [e]
          first | exact h10 | exact ⟨rfl, h10⟩
      rintro σ H11 ⟨rfl, h11⟩
      clear h10
      walk_at "gs"
      refine h_cut (fun σ H12 => σ = [some (.ref b), some (.ref rw), some (.ref d), some (.ref pl), some (.int (0 + (0 : Nat))), some (.ref r), none, none, none, none, none] ∧ Led K H [b] H12 ((r, .raw (.lst [oN (plc c0.src 1), oN (plc c0.tgt 5)])) :: (pl, .raw (.lst [])) :: (d, .raw (.lst (D0.map V.int))) :: (b, .raw (.lst [.ref g, .int j7])) :: (g, .raw (.lst (ds.map V.int))) :: (rw, .raw (.lst [.ref q0, .ref q1])) :: (q1, .raw (.lst [.str c1.kind, sv1, tv1, oI c1.val])) :: (q0, .raw (.lst [.str c0.kind, sv0, tv0, oI c0.val])) :: []) [(sv1, oD c1.src), (tv1, oD c1.tgt), (sv0, oD c0.src), (tv0, oD c0.tgt)]) ?_ ?_
      · walk_at "gs"
        refine h_ixL 5 h11 rfl rfl ?_
        walk_at "gs"
        refine h_ixL 7 h11 rfl rfl ?_
        walk_at "gs"
        refine h_notNo (h11.im 3 _ _ rfl) ?_
        walk_at "gs"
        refine h_brbN (fun hb => ?_) (fun hb => ?_)
        · walk_at "gs"
          rename_i H12 h12
          have e : oN (plc c0.tgt 5) = .int 5 := by unfold plc; rw [hb]; rfl
          rw [e]
          first | exact h12 | exact ⟨rfl, h12⟩
        · walk_at "gs"
          have e : oN (plc c0.tgt 5) = .non := by unfold plc; rw [hb]; rfl
          rw [e]
          first | exact h11 | exact ⟨rfl, h11⟩
      rintro σ H12 ⟨rfl, h12⟩
      clear h11
      walk_at "gs"
      rename_i H13 h13
      exact ⟨_, _, rfl, .inr (.inl ⟨rfl, r, nr, h13.pick [1, 0, 2, 3, 4, 5, 6, 7]⟩)⟩
    · walk_at "gs"
      rename_i r H10 nr h10
      refine h_cut (fun σ H11 => σ = [some (.ref b), some (.ref rw), some (.ref d), some (.ref pl), some (.int (0 + (1 : Nat))), some (.ref r), none, none, none, none, none] ∧ Led K H [b] H11 ((r, .raw (.lst [oN (plc c1.src 11), .non])) :: (pl, .raw (.lst [.ref r0])) :: (r0, .raw (.lst [oN (plc c0.src 1), oN (plc c0.tgt 5)])) :: (d, .raw (.lst (D0.map V.int))) :: (b, .raw (.lst [.ref g, .int j7])) :: (g, .raw (.lst (ds.map V.int))) :: (rw, .raw (.lst [.ref q0, .ref q1])) :: (q1, .raw (.lst [.str c1.kind, sv1, tv1, oI c1.val])) :: (q0, .raw (.lst [.str c0.kind, sv0, tv0, oI c0.val])) :: []) [(sv1, oD c1.src), (tv1, oD c1.tgt), (sv0, oD c0.src), (tv0, oD c0.tgt)]) ?_ ?_
      · walk_at "gs"
        refine h_ixL 6 h10 rfl rfl ?_
        walk_at "gs"
        refine h_ixL 7 h10 rfl rfl ?_
        walk_at "gs"
        refine h_notNo (h10.im 0 _ _ rfl) ?_
        walk_at "gs"
        refine h_brbN (fun hb => ?_) (fun hb => ?_)
        · walk_at "gs"
          rename_i H11 h11
          have e : oN (plc c1.src 11) = .int 11 := by unfold plc; rw [hb]; rfl
          rw [e]
          first | exact h11 | exact ⟨rfl, h11⟩
        · walk_at "gs"
          have e : oN (plc c1.src 11) = .non := by unfold plc; rw [hb]; rfl
          rw [e]
          first | exact h10 | exact ⟨rfl, h10⟩
      rintro σ H11 ⟨rfl, h11⟩
      clear h10
      walk_at "gs"
      refine h_cut (fun σ H12 => σ = [some (.ref b), some (.ref rw), some (.ref d), some (.ref pl), some (.int (0 + (1 : Nat))), some (.ref r), none, none, none, none, none] ∧ Led K H [b] H12 ((r, .raw (.lst [oN (plc c1.src 11), oN (plc c1.tgt 15)])) :: (pl, .raw (.lst [.ref r0])) :: (r0, .raw (.lst [oN (plc c0.src 1), oN (plc c0.tgt 5)])) :: (d, .raw (.lst (D0.map V.int))) :: (b, .raw (.lst [.ref g, .int j7])) :: (g, .raw (.lst (ds.map V.int))) :: (rw, .raw (.lst [.ref q0, .ref q1])) :: (q1, .raw (.lst [.str c1.kind, sv1, tv1, oI c1.val])) :: (q0, .raw (.lst [.str c0.kind, sv0, tv0, oI c0.val])) :: []) [(sv1, oD c1.src), (tv1, oD c1.tgt), (sv0, oD c0.src), (tv0, oD c0.tgt)]) ?_ ?_
      · walk_at "gs"
        refine h_ixL 6 h11 rfl rfl ?_
        walk_at "gs"
        refine h_ixL 7 h11 rfl rfl ?_
        walk_at "gs"
        refine h_notNo (h11.im 1 _ _ rfl) ?_
        walk_at "gs"
        refine h_brbN (fun hb => ?_) (fun hb => ?_)
        · walk_at "gs"
          rename_i H12 h12
          have e : oN (plc c1.tgt 15) = .int 15 := by unfold plc; rw [hb]; rfl
          rw [e]
          first | exact h12 | exact ⟨rfl, h12⟩
        · walk_at "gs"
          have e : oN (plc c1.tgt 15) = .non := by unfold plc; rw [hb]; rfl
          rw [e]
          first | exact h11 | exact ⟨rfl, h11⟩
      rintro σ H12 ⟨rfl, h12⟩
      clear h11
      walk_at "gs"
      rename_i H13 h13
      exact ⟨_, _, rfl, .inr (.inr ⟨rfl, r0, r, nr0, h13.pick [1, 2, 0, 3, 4, 5, 6, 7, 8]⟩)⟩
    · omega
  rintro σ H9 ⟨y4, y5, rfl, hz⟩
  rcases hz with ⟨z, _⟩ | ⟨z, _⟩ | ⟨_, r0, r1, nr0, h9⟩
  · exact nomatch z
  · exact nomatch z
  clear h8 h7
  have h9 : Led K H [b] H9 ((b, .raw (.lst [.ref g, .int j7])) :: (g, .raw (.lst (ds.map V.int))) :: (pl, .raw (.lst [.ref r0, .ref r1])) :: (r0, .raw (.lst [oN (plc c0.src 1), oN (plc c0.tgt 5)])) :: (r1, .raw (.lst [oN (plc c1.src 11), oN (plc c1.tgt 15)])) :: (d, .raw (.lst (D0.map V.int))) :: (rw, .raw (.lst [.ref q0, .ref q1])) :: (q1, .raw (.lst [.str c1.kind, sv1, tv1, oI c1.val])) :: (q0, .raw (.lst [.str c0.kind, sv0, tv0, oI c0.val])) :: []) [(sv1, oD c1.src), (tv1, oD c1.tgt), (sv0, oD c0.src), (tv0, oD c0.tgt)] := h9.pick [4, 5, 0, 1, 2, 3, 6, 7, 8]
  walk_at "gs"
  refine lcR h9 (fun r m H7 => ∃ (j8 : Int) (ns : List Int), (j7 ≤ j8 ∧ j8 ≤ j7 + m) ∧ ns.length = m ∧ (∀ z ∈ ns, z = 0 ∨ z = 1) ∧ (H r = none ∨ r ∈ [b]) ∧
      Led K H [b] H7 ((r, .raw (.lst (ns.map V.int))) :: (b, .raw (.lst [.ref g, .int j8])) :: (g, .raw (.lst (ds.map V.int))) :: (pl, .raw (.lst [.ref r0, .ref r1])) :: (r0, .raw (.lst [oN (plc c0.src 1), oN (plc c0.tgt 5)])) :: (r1, .raw (.lst [oN (plc c1.src 11), oN (plc c1.tgt 15)])) :: (d, .raw (.lst (D0.map V.int))) :: (rw, .raw (.lst [.ref q0, .ref q1])) :: (q1, .raw (.lst [.str c1.kind, sv1, tv1, oI c1.val])) :: (q0, .raw (.lst [.str c0.kind, sv0, tv0, oI c0.val])) :: []) [(sv1, oD c1.src), (tv1, oD c1.tgt), (sv0, oD c0.src), (tv0, oD c0.tgt)])
    (fun r H7 nr h7 => ⟨j7, [], by omega, rfl, fun h hh => (nomatch hh), nr, h7⟩) ?_ ?_
  · rintro r m H7 hm ⟨j8, ns, hj8, hns, bns, nr, h7⟩
    walk_at "gs"
    rename_i z H8 hz0 hz1 h8
    obtain ⟨acc, a1, a2, a3⟩ := h_accL (y := .int z) 0 h8 rfl nr (by rw [List.length_map, sizeLine_eq]; omega)
    refine ⟨acc, a1, a2, j8 + 1, ns ++ [z], by omega, by rw [List.length_append, hns]; rfl, fun x hx => ?_, nr, ?_⟩
    · rcases List.mem_append.mp hx with hx | hx
      · exact bns x hx
      · cases List.mem_singleton.mp hx
        omega
    · rw [← map_snoc]
      exact a3
  rintro ol H7 ⟨j8, ks, hj8, hks, bks, nol, h10⟩
  clear h9
  walk_at "gs"
  refine h_isLn 7 h10 rfl ?_
  refine lcL (xs := [.ref q0, .ref q1]) h10 (fun r i H9 => (H r = none ∨ r ∈ [b]) ∧ ((i = 0 ∧ Led K H [b] H9 ((r, .raw (.lst [])) :: ((ol, .raw (.lst (ks.map V.int))) :: (b, .raw (.lst [.ref g, .int j8])) :: (g, .raw (.lst (ds.map V.int))) :: (pl, .raw (.lst [.ref r0, .ref r1])) :: (r0, .raw (.lst [oN (plc c0.src 1), oN (plc c0.tgt 5)])) :: (r1, .raw (.lst [oN (plc c1.src 11), oN (plc c1.tgt 15)])) :: (d, .raw (.lst (D0.map V.int))) :: (rw, .raw (.lst [.ref q0, .ref q1])) :: (q1, .raw (.lst [.str c1.kind, sv1, tv1, oI c1.val])) :: (q0, .raw (.lst [.str c0.kind, sv0, tv0, oI c0.val])) :: [])) [(sv1, oD c1.src), (tv1, oD c1.tgt), (sv0, oD c0.src), (tv0, oD c0.tgt)]) ∨ (i = 1 ∧ ∃ w0 dx0 pb0 pt0 pn0, ((H w0 = none ∨ w0 ∈ [b]) ∧ (H pb0 = none ∨ pb0 ∈ [b]) ∧ (H pt0 = none ∨ pt0 ∈ [b])) ∧ Led K H [b] H9 ((r, .raw (.lst [.ref w0])) :: (wkE A w0 dx0 pb0 pt0 pn0 sv0 tv0 c0 Ws.start ++ ((ol, .raw (.lst (ks.map V.int))) :: (b, .raw (.lst [.ref g, .int j8])) :: (g, .raw (.lst (ds.map V.int))) :: (pl, .raw (.lst [.ref r0, .ref r1])) :: (r0, .raw (.lst [oN (plc c0.src 1), oN (plc c0.tgt 5)])) :: (r1, .raw (.lst [oN (plc c1.src 11), oN (plc c1.tgt 15)])) :: (d, .raw (.lst (D0.map V.int))) :: (rw, .raw (.lst [.ref q0, .ref q1])) :: (q1, .raw (.lst [.str c1.kind, sv1, tv1, oI c1.val])) :: (q0, .raw (.lst [.str c0.kind, sv0, tv0, oI c0.val])) :: []))) [(sv1, oD c1.src), (tv1, oD c1.tgt), (sv0, oD c0.src), (tv0, oD c0.tgt)]) ∨ (i = 2 ∧ ∃ w0 dx0 pb0 pt0 pn0 w1 dx1 pb1 pt1 pn1, ((H w0 = none ∨ w0 ∈ [b]) ∧ (H pb0 = none ∨ pb0 ∈ [b]) ∧ (H pt0 = none ∨ pt0 ∈ [b])) ∧ ((H w1 = none ∨ w1 ∈ [b]) ∧ (H pb1 = none ∨ pb1 ∈ [b]) ∧ (H pt1 = none ∨ pt1 ∈ [b])) ∧ Led K H [b] H9 ((r, .raw (.lst [.ref w0, .ref w1])) :: (wkE A w0 dx0 pb0 pt0 pn0 sv0 tv0 c0 Ws.start ++ (wkE A w1 dx1 pb1 pt1 pn1 sv1 tv1 c1 Ws.start ++ ((ol, .raw (.lst (ks.map V.int))) :: (b, .raw (.lst [.ref g, .int j8])) :: (g, .raw (.lst (ds.map V.int))) :: (pl, .raw (.lst [.ref r0, .ref r1])) :: (r0, .raw (.lst [oN (plc c0.src 1), oN (plc c0.tgt 5)])) :: (r1, .raw (.lst [oN (plc c1.src 11), oN (plc c1.tgt 15)])) :: (d, .raw (.lst (D0.map V.int))) :: (rw, .raw (.lst [.ref q0, .ref q1])) :: (q1, .raw (.lst [.str c1.kind, sv1, tv1, oI c1.val])) :: (q0, .raw (.lst [.str c0.kind, sv0, tv0, oI c0.val])) :: [])))) [(sv1, oD c1.src), (tv1, oD c1.tgt), (sv0, oD c0.src), (tv0, oD c0.tgt)])))
    (fun r H9 nr h9 => ⟨nr, .inl ⟨rfl, h9⟩⟩) ?_ ?_ ?_
  · rintro r i H9 hi ⟨nr, hz⟩
    rcases hz with ⟨_, h9⟩ | ⟨_, w0, dx0, pb0, pt0, pn0, _, h9⟩ | ⟨_, w0, dx0, pb0, pt0, pn0, w1, dx1, pb1, pt1, pn1, _, _, h9⟩
    · exact h9.sqL 8 rfl
    · exact h9.sqL 12 rfl
    · exact h9.sqL 16 rfl
  · rintro r i x H9 hx ⟨nr, hz⟩
    rcases hz with ⟨rfl, h9⟩ | ⟨rfl, w0, dx0, pb0, pt0, pn0, f0, h9⟩ | ⟨rfl, _⟩
    · cases hx
      walk_at "gs"
      refine h_ixL 10 h9 rfl rfl ?_
      walk_at "gs"
      refine h_ixL 10 h9 rfl rfl ?_
      walk_at "gs"
      refine h_ixL 10 h9 rfl rfl ?_
      walk_at "gs"
      refine h_ixL 10 h9 rfl rfl ?_
      walk_at "gs"
      refine h_mkW h9 fun w0 dx0 pb0 pt0 pn0 H10 n1 n2 n3 n4 h10 => ?_
      obtain ⟨acc, a1, a2, a3⟩ := h_accL (y := .ref w0) 4 h10 rfl nr (by rw [sizeLine_eq]; exact (by decide : 0 < 16777216))
      exact ⟨acc, a1, a2, nr, .inr (.inl ⟨rfl, w0, dx0, pb0, pt0, pn0, ⟨n1, n2, n3⟩, a3.pick [4, 0, 1, 2, 3, 5, 6, 7, 8, 9, 10, 11, 12, 13, 14]⟩)⟩
    · cases hx
      walk_at "gs"
      refine h_ixL 13 h9 rfl rfl ?_
      walk_at "gs"
      refine h_ixL 13 h9 rfl rfl ?_
      walk_at "gs"
      refine h_ixL 13 h9 rfl rfl ?_
      walk_at "gs"
      refine h_ixL 13 h9 rfl rfl ?_
      walk_at "gs"
      refine h_mkW h9 fun w1 dx1 pb1 pt1 pn1 H10 n1 n2 n3 n4 h10 => ?_
      obtain ⟨acc, a1, a2, a3⟩ := h_accL (y := .ref w1) 4 h10 rfl nr (by rw [sizeLine_eq]; exact (by decide : 1 < 16777216))
      exact ⟨acc, a1, a2, nr, .inr (.inr ⟨rfl, w0, dx0, pb0, pt0, pn0, w1, dx1, pb1, pt1, pn1, f0, ⟨n1, n2, n3⟩, a3.pick [4, 5, 6, 7, 8, 0, 1, 2, 3, 9, 10, 11, 12, 13, 14, 15, 16, 17, 18]⟩)⟩
    · exact nomatch hx
  rintro wl H9 ⟨nwl, hz⟩
  rcases hz with ⟨z, _⟩ | ⟨z, _⟩ | ⟨_, w0, dx0, pb0, pt0, pn0, w1, dx1, pb1, pt1, pn1, wf0, wf1, hwl⟩
  · exact nomatch z
  · exact nomatch z
  clear h10
  walk_at "gs"
  refine h_isLn 16 hwl rfl ?_
  refine lcL (xs := [.ref q0, .ref q1]) hwl (fun r i H9 => (H r = none ∨ r ∈ [b]) ∧ ((i = 0 ∧ Led K H [b] H9 ((r, .raw (.lst [])) :: ((wl, .raw (.lst [.ref w0, .ref w1])) :: (wkE A w0 dx0 pb0 pt0 pn0 sv0 tv0 c0 Ws.start ++ (wkE A w1 dx1 pb1 pt1 pn1 sv1 tv1 c1 Ws.start ++ ((ol, .raw (.lst (ks.map V.int))) :: (b, .raw (.lst [.ref g, .int j8])) :: (g, .raw (.lst (ds.map V.int))) :: (pl, .raw (.lst [.ref r0, .ref r1])) :: (r0, .raw (.lst [oN (plc c0.src 1), oN (plc c0.tgt 5)])) :: (r1, .raw (.lst [oN (plc c1.src 11), oN (plc c1.tgt 15)])) :: (d, .raw (.lst (D0.map V.int))) :: (rw, .raw (.lst [.ref q0, .ref q1])) :: (q1, .raw (.lst [.str c1.kind, sv1, tv1, oI c1.val])) :: (q0, .raw (.lst [.str c0.kind, sv0, tv0, oI c0.val])) :: []))))) [(sv1, oD c1.src), (tv1, oD c1.tgt), (sv0, oD c0.src), (tv0, oD c0.tgt)]) ∨ (i = 1 ∧ ∃ u0 ux0 ub0 ut0 un0, ((H u0 = none ∨ u0 ∈ [b]) ∧ (H ub0 = none ∨ ub0 ∈ [b]) ∧ (H ut0 = none ∨ ut0 ∈ [b])) ∧ Led K H [b] H9 ((r, .raw (.lst [.ref u0])) :: (wkE A u0 ux0 ub0 ut0 un0 sv0 tv0 c0 Ws.start ++ ((wl, .raw (.lst [.ref w0, .ref w1])) :: (wkE A w0 dx0 pb0 pt0 pn0 sv0 tv0 c0 Ws.start ++ (wkE A w1 dx1 pb1 pt1 pn1 sv1 tv1 c1 Ws.start ++ ((ol, .raw (.lst (ks.map V.int))) :: (b, .raw (.lst [.ref g, .int j8])) :: (g, .raw (.lst (ds.map V.int))) :: (pl, .raw (.lst [.ref r0, .ref r1])) :: (r0, .raw (.lst [oN (plc c0.src 1), oN (plc c0.tgt 5)])) :: (r1, .raw (.lst [oN (plc c1.src 11), oN (plc c1.tgt 15)])) :: (d, .raw (.lst (D0.map V.int))) :: (rw, .raw (.lst [.ref q0, .ref q1])) :: (q1, .raw (.lst [.str c1.kind, sv1, tv1, oI c1.val])) :: (q0, .raw (.lst [.str c0.kind, sv0, tv0, oI c0.val])) :: [])))))) [(sv1, oD c1.src), (tv1, oD c1.tgt), (sv0, oD c0.src), (tv0, oD c0.tgt)]) ∨ (i = 2 ∧ ∃ u0 ux0 ub0 ut0 un0 u1 ux1 ub1 ut1 un1, ((H u0 = none ∨ u0 ∈ [b]) ∧ (H ub0 = none ∨ ub0 ∈ [b]) ∧ (H ut0 = none ∨ ut0 ∈ [b])) ∧ ((H u1 = none ∨ u1 ∈ [b]) ∧ (H ub1 = none ∨ ub1 ∈ [b]) ∧ (H ut1 = none ∨ ut1 ∈ [b])) ∧ Led K H [b] H9 ((r, .raw (.lst [.ref u0, .ref u1])) :: (wkE A u0 ux0 ub0 ut0 un0 sv0 tv0 c0 Ws.start ++ (wkE A u1 ux1 ub1 ut1 un1 sv1 tv1 c1 Ws.start ++ ((wl, .raw (.lst [.ref w0, .ref w1])) :: (wkE A w0 dx0 pb0 pt0 pn0 sv0 tv0 c0 Ws.start ++ (wkE A w1 dx1 pb1 pt1 pn1 sv1 tv1 c1 Ws.start ++ ((ol, .raw (.lst (ks.map V.int))) :: (b, .raw (.lst [.ref g, .int j8])) :: (g, .raw (.lst (ds.map V.int))) :: (pl, .raw (.lst [.ref r0, .ref r1])) :: (r0, .raw (.lst [oN (plc c0.src 1), oN (plc c0.tgt 5)])) :: (r1, .raw (.lst [oN (plc c1.src 11), oN (plc c1.tgt 15)])) :: (d, .raw (.lst (D0.map V.int))) :: (rw, .raw (.lst [.ref q0, .ref q1])) :: (q1, .raw (.lst [.str c1.kind, sv1, tv1, oI c1.val])) :: (q0, .raw (.lst [.str c0.kind, sv0, tv0, oI c0.val])) :: []))))))) [(sv1, oD c1.src), (tv1, oD c1.tgt), (sv0, oD c0.src), (tv0, oD c0.tgt)])))
    (fun r H9 nr h9 => ⟨nr, .inl ⟨rfl, h9⟩⟩) ?_ ?_ ?_
  · rintro r i H9 hi ⟨nr, hz⟩
    rcases hz with ⟨_, h9⟩ | ⟨_, u0, ux0, ub0, ut0, un0, _, h9⟩ | ⟨_, u0, ux0, ub0, ut0, un0, u1, ux1, ub1, ut1, un1, _, _, h9⟩
    · exact h9.sqL 17 rfl
    · exact h9.sqL 21 rfl
    · exact h9.sqL 25 rfl
  · rintro r i x H9 hx ⟨nr, hz⟩
    rcases hz with ⟨rfl, h9⟩ | ⟨rfl, u0, ux0, ub0, ut0, un0, f0, h9⟩ | ⟨rfl, _⟩
    · cases hx
      walk_at "gs"
      refine h_ixL 19 h9 rfl rfl ?_
      walk_at "gs"
      refine h_ixL 19 h9 rfl rfl ?_
      walk_at "gs"
      refine h_ixL 19 h9 rfl rfl ?_
      walk_at "gs"
      refine h_ixL 19 h9 rfl rfl ?_
      walk_at "gs"
      refine h_mkW h9 fun u0 ux0 ub0 ut0 un0 H10 n1 n2 n3 n4 h10 => ?_
      obtain ⟨acc, a1, a2, a3⟩ := h_accL (y := .ref u0) 4 h10 rfl nr (by rw [sizeLine_eq]; exact (by decide : 0 < 16777216))
      exact ⟨acc, a1, a2, nr, .inr (.inl ⟨rfl, u0, ux0, ub0, ut0, un0, ⟨n1, n2, n3⟩, a3.pick [4, 0, 1, 2, 3, 5, 6, 7, 8, 9, 10, 11, 12, 13, 14, 15, 16, 17, 18, 19, 20, 21, 22, 23]⟩)⟩
    · cases hx
      walk_at "gs"
      refine h_ixL 22 h9 rfl rfl ?_
      walk_at "gs"
      refine h_ixL 22 h9 rfl rfl ?_
      walk_at "gs"
      refine h_ixL 22 h9 rfl rfl ?_
      walk_at "gs"
      refine h_ixL 22 h9 rfl rfl ?_
      walk_at "gs"
      refine h_mkW h9 fun u1 ux1 ub1 ut1 un1 H10 n1 n2 n3 n4 h10 => ?_
      obtain ⟨acc, a1, a2, a3⟩ := h_accL (y := .ref u1) 4 h10 rfl nr (by rw [sizeLine_eq]; exact (by decide : 1 < 16777216))
      exact ⟨acc, a1, a2, nr, .inr (.inr ⟨rfl, u0, ux0, ub0, ut0, un0, u1, ux1, ub1, ut1, un1, f0, ⟨n1, n2, n3⟩, a3.pick [4, 5, 6, 7, 8, 0, 1, 2, 3, 9, 10, 11, 12, 13, 14, 15, 16, 17, 18, 19, 20, 21, 22, 23, 24, 25, 26, 27]⟩)⟩
    · exact nomatch hx
  rintro ag H9 ⟨nag, hz⟩
  rcases hz with ⟨z, _⟩ | ⟨z, _⟩ | ⟨_, u0, ux0, ub0, ut0, un0, u1, ux1, ub1, ut1, un1, uf0, uf1, hag⟩
  · exact nomatch z
  · exact nomatch z
  clear hwl
  walk_at "gs"
  have rg0 : c0.Reg (plc c0.src 1, plc c0.tgt 5) 1 9 := reg_pl ok0 0
  have rg1 : c1.Reg (plc c1.src 11, plc c1.tgt 15) 11 19 := reg_pl ok1 10
  refine h_listOf 24 hag rfl fun ot H10 not11 h11 => ?_
  walk_at "gs"
  refine h_run (p0 := (plc c0.src 1, plc c0.tgt 5)) (p1 := (plc c1.src 11, plc c1.tgt 15)) (D := D0) (ks := ks) (X := [_, _, _, _, _, _, _, _, _, _, _, _]) (h11.pick [11, 12, 13, 14, 15, 16, 17, 18, 25, 10, 22, 23, 24, 19, 0, 1, 2, 3, 4, 5, 6, 7, 8, 9, 20, 21]) (h11.im 2 _ _ rfl) (h11.im 3 _ _ rfl) (h11.im 0 _ _ rfl) (h11.im 1 _ _ rfl) ok0 ok1 (rg0.fit (by omega)) (rg1.fit (by omega)) bks (by rw [hks]; decide) (fun x hx => ?_) fun tl t0 t1 H11 ntl h13 => ?_
  · simp only [List.mem_cons, List.not_mem_nil, or_false] at hx
    rcases hx with e | e | e | e | e | e | e
    · exact e ▸ wf0.1
    · exact e ▸ wf0.2.1
    · exact e ▸ wf0.2.2
    · exact e ▸ wf1.1
    · exact e ▸ wf1.2.1
    · exact e ▸ wf1.2.2
    · exact e ▸ nd
  clear h11 hag
  walk_at "gs"
  rename_i x H12 nx h14 e0 H13 ne0 h15
  clear h13 h14
  refine h_run (p0 := (plc c0.src 1, plc c0.tgt 5)) (p1 := (plc c1.src 11, plc c1.tgt 15)) (D := D0) (ks := []) (X := [_, _, _, _, _]) (h15.pick [11, 12, 13, 14, 15, 16, 17, 18, 9, 10, 5, 6, 7, 0, 1, 2, 3, 19, 20]) (h15.im 4 _ _ rfl) (h15.im 5 _ _ rfl) (h15.im 2 _ _ rfl) (h15.im 3 _ _ rfl) ok0 ok1 (rg0.fit (by omega)) (rg1.fit (by omega)) (fun z hz => (nomatch hz)) (Nat.zero_le _) (fun x hx => ?_) fun tl2 t2 t3 H14 ntl2 h17 => ?_
  · simp only [List.mem_cons, List.not_mem_nil, or_false] at hx
    rcases hx with e | e | e | e | e | e | e
    · exact e ▸ uf0.1
    · exact e ▸ uf0.2.1
    · exact e ▸ uf0.2.2
    · exact e ▸ uf1.1
    · exact e ▸ uf1.2.1
    · exact e ▸ uf1.2.2
    · exact e ▸ not11
  clear h15
  walk_at "gs"
  rename_i y H15 ny h18
  have bk0 : ∀ z ∈ ([] : List Int), z = 0 ∨ z = 1 := fun z hz => (nomatch hz)
  have hl1 : 19 ≤ D0.length := by omega
  have hl2 : 9 ≤ D0.length := by omega
  obtain ⟨a0, a1, a2, _⟩ := run_apart ok0 ok1 rg0 rg1 (by decide) hl1 hl2 bD bks
  obtain ⟨b0, b1, _, _⟩ := run_apart ok0 ok1 rg0 rg1 (by decide) hl1 hl2 bD bk0
  have ab := run_same ok0 ok1 rg0 rg1 (by decide) hl1 hl2 bD bks bk0
  have rb := run_byt ok0 ok1 rg0 rg1 (by decide) hl1 hl2 bD bks
  have dxx := dp_pair h18 8 9 10 rfl rfl rfl (h18.im 2 _ _ rfl) (h18.im 3 _ _ rfl)
  have dyy := dp_pair h18 0 1 2 rfl rfl rfl (h18.im 0 _ _ rfl) (h18.im 1 _ _ rfl)
  rw [a0, a1] at dxx
  rw [b0, b1, ← ab] at dyy
  refine h_same dxx dyy (shw_pair (shw_endO ok0) (shw_endO ok1) (fun z hz => by have := rb z hz; omega) (by rw [a2, hD20]; decide)) ?_
  exact k H15 j8 (by omega) (by omega) h18.kp (h18.raw 11 rfl)

def t__law_lost (K : PySem.W.Frag) (A : Ad) : TS :=
  (tSeq (tAsg (tOp (rIx K) (tLst (tCons (tC (.int 1)) (tCons (tC (.int 2)) (tCons (tC (.int 4)) tNil)))) (tCall (sp__law_draw K A) [] E0 (tCons (mV 0) (tCons (tC (.int 3)) tNil)))) (gName 1))
  (tSeq (tAsg (tOp (mEq K) (tCall (sp__law_draw K A) [] E0 (tCons (mV 0) (tCons (tC (.int 2)) tNil))) (tC (.int 1))) (gName 2))
  (tSeq (tAsg (tOp (mAdd K) (tC (.int 1)) (tOp mMod (tCB mInt (tCons (tCall (sp__law_draw K A) [] E0 (tCons (mV 0) (tCons (tC (.int 900)) tNil))) tNil)) (tOp mSub (tOp mMul (tC (.int 8)) (mV 1)) (tC (.int 1))))) (gName 3))
  (tSeq (tAsg (tLst (tCons (tTup (tCons (mV 1) (tCons (mV 2) (tCons (tC (.int 0)) (tCons (mV 3) (tCons (tOp (mEq K) (tCall (sp__law_draw K A) [] E0 (tCons (mV 0) (tCons (tC (.int 2)) tNil))) (tC (.int 1))) tNil)))))) (tCons (tTup (tCons (mV 1) (tCons (mV 2) (tCons (mV 3) (tCons (tOp mSub (tOp mMul (tC (.int 8)) (mV 1)) (mV 3)) (tCons (tOp (mEq K) (tCall (sp__law_draw K A) [] E0 (tCons (mV 0) (tCons (tC (.int 2)) tNil))) (tC (.int 1))) tNil)))))) tNil))) (gName 4))
  (tSeq (tAsg (tCall (sp__law_draw K A) [] E0 (tCons (mV 0) (tCons (tC (.int 2)) tNil))) (gName 5))
  (tSeq (tAsg (tLst (tCons (tOp (rIx K) (mV 4) (mV 5)) (tCons (tOp (rIx K) (mV 4) (tOp mSub (tC (.int 1)) (mV 5))) tNil))) (gName 4))
  (tSeq (tAsg (tLc (jR1 (tCons (tC (.int 8)) tNil)) (gName 11) tYes (tCall (sp__law_draw K A) [] E0 (tCons (mV 0) (tCons (tC (.int 256)) tNil))) [11]) (gName 6))
  (tSeq (tAsg (tLst (tCons (tCall (sp__law_some K A) [] E0 (tCons (mV 0) (tCons (tOp (rIx K) (mV 4) (tC (.int 0))) tNil))) (tCons (tCall (sp__law_some K A) [] E0 (tCons (mV 0) (tCons (tOp (rIx K) (mV 4) (tC (.int 1))) tNil))) tNil))) (gName 7))
  (tSeq (tAsg (tOp (mAdd K) (tOp (mAdd K) (tSl (uSl K) (mV 6) tNoPart (mPart (tC (.int 3)))) (tCall (sp__law_with K A) [] E0 (tCons (tSl (uSl K) (mV 6) (mPart (tC (.int 3))) (mPart (tOp (mAdd K) (tC (.int 3)) (mV 1)))) (tCons (tOp (rIx K) (mV 4) (tC (.int 0))) (tCons (tOp (rIx K) (mV 7) (tC (.int 0))) tNil))))) (tSl (uSl K) (mV 6) (mPart (tOp (mAdd K) (tC (.int 3)) (mV 1))) tNoPart)) (gName 8))
  (tSeq (tAsg (tLc (jR1 (tCons (tC (.int 2)) tNil)) (gName 11) tYes (tMake A.c_Work (sp_Work___init__ K A) [] E0 (tCons (tC (.str "set")) (tCons (tC .non) (tCons (tOp (rIx K) (mV 4) (mV 11)) (tCons (tOp (rIx K) (mV 7) (mV 11)) tNil))))) [11]) (gName 9))
  (tSeq (tAsg (tCall (sp__law_run K A) [] E0 (tCons (mV 9) (tCons (tLst (tCons (tLst (tCons (tC .non) (tCons (tC (.int 3)) tNil))) (tCons (tLst (tCons (tC .non) (tCons (tC (.int 3)) tNil))) tNil))) (tCons (tOp (mAdd K) (tOp mMul (tLst (tCons (tC (.int 0)) tNil)) (mV 1)) (tOp mMul (tLst (tCons (tC (.int 1)) tNil)) (tC (.int 8)))) (tCons (mV 6) tNil))))) (gName 10))
  (tRet (tCall (sp__law_same K A) [] E0 (tCons (tLst (tCons (mV 10) (tCons (mV 6) tNil))) (tCons (tLst (tCons (tLst (tCons (tTup (tCons (tC (.str "done")) (tCons (tC .non) tNil))) (tCons (tTup (tCons (tC (.str "done")) (tCons (tC .non) tNil))) tNil))) (tCons (mV 8) tNil))) tNil)))))))))))))))
theorem rd__law_lost {K : PySem.W.Frag} {A : Ad} {vs : List V} {H : Hp} {Q : VK} {E : XK} (h : sp__law_lost K A vs H Q E) : t__law_lost K A { nx := fun _ H' => Q .non H', rt := Q } (start ["_law_box", "_law_size", "_law_big", "_law_cut", "_law_slots", "_law_turn", "_law_data", "_law_values", "_law_due", "_law_works", "_law_told_here", "_law_k"] vs) H := by
  obtain ⟨b, g, ds, i, rfl, hb, hg, hbg, h0, h1, k⟩ := h
  show t__law_lost K A _ [some (.ref b), none, none, none, none, none, none, none, none, none, none, none] H
  unfold t__law_lost
  have hL : Led K H [b] H [(b, .raw (.lst [.ref g, .int i])), (g, .raw (.lst (ds.map V.int)))] [] := Led.mk2 hb hg hbg
  walk_at "gs"
  rename_i q H3 nq h4 z H4 hz0 hz1 h5
  refine h_ixL 0 h5 rfl (at_ints (ns := [1, 2, 4]) hz0 hz1) ?_
  obtain ⟨n, hn, n1, n4⟩ : ∃ n : Nat, ([1, 2, 4] : List Int).getD z.toNat 0 = n ∧ 1 ≤ n ∧ n ≤ 4 := by
    rcases (show z = 0 ∨ z = 1 ∨ z = 2 by omega) with rfl | rfl | rfl
    · exact ⟨1, rfl, by decide, by decide⟩
    · exact ⟨2, rfl, by decide, by decide⟩
    · exact ⟨4, rfl, by decide, by decide⟩
  rw [hn]
  have h6 := h5.tlL
  clear h5 h4 hL
  walk_at "gs"
  rename_i z1 H5 z10 z11 h7 z2 H6 z20 z21 h8 z3 H7 z30 z31 h9 p0 H8 h10 z4 H9 z40 z41 h11 p1 H10 h12 sl H11 nsl h13 zt H12 zt0 zt1 h14
  obtain ⟨cc, hcc, cc1, cc2⟩ : ∃ cc : Nat, 1 + z2 % (8 * (n : Int) - 1) = cc ∧ 1 ≤ cc ∧ cc + 1 ≤ 8 * n := by
    have m1 := Int.emod_nonneg z2 (show 8 * (n : Int) - 1 ≠ 0 by omega)
    have m2 := Int.emod_lt_of_pos z2 (show 0 < 8 * (n : Int) - 1 by omega)
    exact ⟨(1 + z2 % (8 * (n : Int) - 1)).toNat, by omega, by omega, by omega⟩
  rw [hcc, show 8 * (n : Int) - (cc : Int) = ((8 * n - cc : Nat) : Int) by omega] at h14
  clear h13 h12 h11 h10 h9 h8 h7 h6
  obtain ⟨pa, pb, xa, xb, hat0, hat1, ia, ib, oka, okb, na, nb', wa, wb⟩ : ∃ (pa pb : Addr) (xa xb : S5), atI [V.ref p0, .ref p1] zt = some (.ref pa) ∧ atI [V.ref p0, .ref p1] (1 - zt) = some (.ref pb) ∧ Im K H12 (.ref pa) (d5 xa) ∧ Im K H12 (.ref pb) (d5 xb) ∧ xa.Ok ∧ xb.Ok ∧ xa.n = n ∧ xb.n = n ∧ xa.whole = false ∧ xb.whole = false := by
    have g0 : (⟨n, decide (z1 = 1), 0, cc, decide (z3 = 1)⟩ : S5).Ok := ⟨n1, n4, cc1, by show 0 + cc ≤ 8 * n; omega⟩
    have g1 : (⟨n, decide (z1 = 1), cc, 8 * n - cc, decide (z4 = 1)⟩ : S5).Ok := ⟨n1, n4, by show 1 ≤ 8 * n - cc; omega, by show cc + (8 * n - cc) ≤ 8 * n; omega⟩
    have w0 : (⟨n, decide (z1 = 1), 0, cc, decide (z3 = 1)⟩ : S5).whole = false := decide_eq_false (by show ¬ cc = 8 * n; omega)
    have w1 : (⟨n, decide (z1 = 1), cc, 8 * n - cc, decide (z4 = 1)⟩ : S5).whole = false := decide_eq_false (by show ¬ 8 * n - cc = 8 * n; omega)
    rcases (show zt = 0 ∨ zt = 1 by omega) with rfl | rfl
    · exact ⟨p0, p1, ⟨n, decide (z1 = 1), 0, cc, decide (z3 = 1)⟩, ⟨n, decide (z1 = 1), cc, 8 * n - cc, decide (z4 = 1)⟩, rfl, rfl, h14.im 1 _ _ rfl, h14.im 0 _ _ rfl, g0, g1, rfl, rfl, w0, w1⟩
    · exact ⟨p1, p0, ⟨n, decide (z1 = 1), cc, 8 * n - cc, decide (z4 = 1)⟩, ⟨n, decide (z1 = 1), 0, cc, decide (z3 = 1)⟩, rfl, rfl, h14.im 0 _ _ rfl, h14.im 1 _ _ rfl, g1, g0, rfl, rfl, w1, w0⟩
  have h15 : Led K H [b] H12 [(sl, .raw (.lst [.ref p0, .ref p1])), (b, .raw (.lst [.ref g, .int (i + 1 + 1 + 1 + 1 + 1 + 1)])), (g, .raw (.lst (ds.map V.int)))] [(.ref pa, d5 xa), (.ref pb, d5 xb)] := (h14.noI.imNew ib).imNew ia
  clear h14
  refine h_ixL 0 h15 rfl hat0 ?_
  walk_at "gs"
  refine h_ixL 0 h15 rfl hat1 ?_
  walk_at "gs"
  rename_i s2 H13 ns2 h16
  have h17 : Led K H [b] H13 [(s2, .raw (.lst [.ref pa, .ref pb])), (b, .raw (.lst [.ref g, .int (i + 1 + 1 + 1 + 1 + 1 + 1)])), (g, .raw (.lst (ds.map V.int)))] [(.ref pa, d5 xa), (.ref pb, d5 xb)] := h16.pick [0, 2, 3]
  clear h15 h16
  refine lcR h17 (fun r m H7 => ∃ (j7 : Int) (ns : List Int), (i + 6 ≤ j7 ∧ j7 ≤ i + 6 + m) ∧ ns.length = m ∧ Byt ns ∧ (H r = none ∨ r ∈ [b]) ∧
      Led K H [b] H7 [(r, .raw (.lst (ns.map V.int))), (s2, .raw (.lst [.ref pa, .ref pb])), (b, .raw (.lst [.ref g, .int j7])), (g, .raw (.lst (ds.map V.int)))] [(.ref pa, d5 xa), (.ref pb, d5 xb)])
    (fun r H7 nr h7 => ⟨_, [], by omega, rfl, fun h hh => (nomatch hh), nr, h7⟩) ?_ ?_
  · rintro r m H7 hm ⟨j7, ns, hj7, hns, bns, nr, h7⟩
    walk_at "gs"
    rename_i z H8 hz0 hz1 h8
    obtain ⟨acc, a1, a2, a3⟩ := h_accL (y := .int z) 0 h8 rfl nr (by rw [List.length_map, sizeLine_eq]; omega)
    refine ⟨acc, a1, a2, j7 + 1, ns ++ [z], by omega, by rw [List.length_append, hns]; rfl, fun x hx => ?_, nr, ?_⟩
    · rcases List.mem_append.mp hx with hx | hx
      · exact bns x hx
      · cases List.mem_singleton.mp hx
        exact ⟨hz0, hz1⟩
    · rw [← map_snoc]
      exact a3
  rintro d H14 ⟨j7, D0, hj7, hD0, bD, nd, h18⟩
  have hD8 : D0.length = 8 := hD0
  clear h17 hD0
  walk_at "gs"
  refine h_some 2 h18 rfl rfl (by omega) (by omega) (h18.im 0 _ _ rfl) oka (.inr (by simp)) fun v0 H15 j8 j80 j81 hv0 h19 => ?_
  have h19 : Led K H [b] H15 [(d, .raw (.lst (D0.map V.int))), (s2, .raw (.lst [.ref pa, .ref pb])), (b, .raw (.lst [.ref g, .int j8])), (g, .raw (.lst (ds.map V.int)))] [(.ref pa, d5 xa), (.ref pb, d5 xb)] := h19
  clear h18
  walk_at "gs"
  refine h_some 2 h19 rfl rfl (by omega) (by omega) (h19.im 1 _ _ rfl) okb (.inr (by simp)) fun v1 H16 j9 j90 j91 hv1 h20 => ?_
  have h20 : Led K H [b] H16 [(d, .raw (.lst (D0.map V.int))), (s2, .raw (.lst [.ref pa, .ref pb])), (b, .raw (.lst [.ref g, .int j9])), (g, .raw (.lst (ds.map V.int)))] [(.ref pa, d5 xa), (.ref pb, d5 xb)] := h20
  clear h19
  walk_at "gs"
  rename_i vl H17 nvl h21 s3 H18 ns3 h22 s4 H19 ns4 h23
  rw [show ((3 : Int) + (n : Int)).toNat = 3 + n by omega] at h23
  have h24 : Led K H [b] H19 [(s4, .raw (.lst ((seg D0 3 n).map V.int))), (s3, .raw (.lst ((D0.take 3).map V.int))), (vl, .raw (.lst [.int v0, .int v1])), (d, .raw (.lst (D0.map V.int))), (s2, .raw (.lst [.ref pa, .ref pb])), (b, .raw (.lst [.ref g, .int j9])), (g, .raw (.lst (ds.map V.int)))] [(.ref pa, d5 xa), (.ref pb, d5 xb)] := h23
  clear h20 h21 h22 h23
  have sl3 : (seg D0 3 n).length = n := seg_len (by omega)
  have wl : (wr5 xa (seg D0 3 n) v0).length = n := (wr5_len (sl3.trans na.symm)).trans na
  refine h_with 0 h24 rfl (h24.im 0 _ _ rfl) oka (sl3.trans na.symm) fun w1' H20 nw1 h25 => ?_
  walk_at "gs"
  refine h_cat 2 0 h25 rfl rfl (by rw [wl, List.length_take, sizeLine_eq]; omega) fun c1 H21 nc1 h26 => ?_
  walk_at "gs"
  refine h_sls 5 h26 rfl (by omega) fun t1 H22 nt1 h27 => ?_
  walk_at "gs"
  refine h_cat 1 0 h27 rfl rfl (by rw [List.length_append, wl, List.length_take, List.length_drop, sizeLine_eq]; omega) fun du H23 ndu h28 => ?_
  rw [show ((3 : Int) + (n : Int)).toNat = 3 + n by omega] at h28
  have ep : D0.take 3 ++ (wr5 xa (seg D0 3 n) v0) ++ D0.drop (3 + n) = putSeg D0 3 (wr5 xa (seg D0 3 n) v0) := by
    unfold putSeg
    rw [wl]
  rw [ep] at h28
  have h29 : Led K H [b] H23 ((vl, .raw (.lst [.int v0, .int v1])) :: (s2, .raw (.lst [.ref pa, .ref pb])) :: (du, .raw (.lst ((putSeg D0 3 (wr5 xa (seg D0 3 n) v0)).map V.int))) :: (d, .raw (.lst (D0.map V.int))) :: (b, .raw (.lst [.ref g, .int j9])) :: (g, .raw (.lst (ds.map V.int))) :: []) [(.ref pa, d5 xa), (.ref pb, d5 xb)] := h28.pick [6, 8, 0, 7, 9, 10]
  clear h24 h25 h26 h27 h28
  walk_at "gs"
  refine lcR h29 (fun r i2 H9 => (H r = none ∨ r ∈ [b]) ∧ ((i2 = 0 ∧ Led K H [b] H9 ((r, .raw (.lst [])) :: ((vl, .raw (.lst [.int v0, .int v1])) :: (s2, .raw (.lst [.ref pa, .ref pb])) :: (du, .raw (.lst ((putSeg D0 3 (wr5 xa (seg D0 3 n) v0)).map V.int))) :: (d, .raw (.lst (D0.map V.int))) :: (b, .raw (.lst [.ref g, .int j9])) :: (g, .raw (.lst (ds.map V.int))) :: [])) [(.ref pa, d5 xa), (.ref pb, d5 xb)]) ∨ (i2 = 1 ∧ ∃ w0 dx0 pb0 pt0 pn0, ((H w0 = none ∨ w0 ∈ [b]) ∧ (H pb0 = none ∨ pb0 ∈ [b]) ∧ (H pt0 = none ∨ pt0 ∈ [b])) ∧ Led K H [b] H9 ((r, .raw (.lst [.ref w0])) :: (vl, .raw (.lst [.int v0, .int v1])) :: (s2, .raw (.lst [.ref pa, .ref pb])) :: (wkE A w0 dx0 pb0 pt0 pn0 .non (.ref pa) (.set xa v0) Ws.start ++ ((du, .raw (.lst ((putSeg D0 3 (wr5 xa (seg D0 3 n) v0)).map V.int))) :: (d, .raw (.lst (D0.map V.int))) :: (b, .raw (.lst [.ref g, .int j9])) :: (g, .raw (.lst (ds.map V.int))) :: []))) [(.ref pa, d5 xa), (.ref pb, d5 xb)]) ∨ (i2 = 2 ∧ ∃ w0 dx0 pb0 pt0 pn0 w1 dx1 pb1 pt1 pn1, ((H w0 = none ∨ w0 ∈ [b]) ∧ (H pb0 = none ∨ pb0 ∈ [b]) ∧ (H pt0 = none ∨ pt0 ∈ [b])) ∧ ((H w1 = none ∨ w1 ∈ [b]) ∧ (H pb1 = none ∨ pb1 ∈ [b]) ∧ (H pt1 = none ∨ pt1 ∈ [b])) ∧ Led K H [b] H9 ((r, .raw (.lst [.ref w0, .ref w1])) :: (vl, .raw (.lst [.int v0, .int v1])) :: (s2, .raw (.lst [.ref pa, .ref pb])) :: (wkE A w0 dx0 pb0 pt0 pn0 .non (.ref pa) (.set xa v0) Ws.start ++ (wkE A w1 dx1 pb1 pt1 pn1 .non (.ref pb) (.set xb v1) Ws.start ++ ((du, .raw (.lst ((putSeg D0 3 (wr5 xa (seg D0 3 n) v0)).map V.int))) :: (d, .raw (.lst (D0.map V.int))) :: (b, .raw (.lst [.ref g, .int j9])) :: (g, .raw (.lst (ds.map V.int))) :: [])))) [(.ref pa, d5 xa), (.ref pb, d5 xb)])))
    (fun r H9 nr h9 => ⟨nr, .inl ⟨rfl, h9⟩⟩) ?_ ?_
  · rintro r i2 H9 hi ⟨nr, hz⟩
    have hi : i2 < 2 := hi
    rcases hz with ⟨rfl, h9⟩ | ⟨rfl, w0, dx0, pb0, pt0, pn0, f0, h9⟩ | ⟨rfl, _⟩
    · walk_at "gs"
      refine h_mkW (c := .set xa v0) (sv := .non) (tv := .ref pa) h9 fun w0 dx0 pb0 pt0 pn0 H10 n1 n2 n3 n4 h10 => ?_
      obtain ⟨acc, a1, a2, a3⟩ := h_accL (y := .ref w0) 4 h10 rfl nr (by rw [sizeLine_eq]; exact (by decide : 0 < 16777216))
      exact ⟨acc, a1, a2, nr, .inr (.inl ⟨rfl, w0, dx0, pb0, pt0, pn0, ⟨n1, n2, n3⟩, a3.pick [4, 5, 6, 0, 1, 2, 3, 7, 8, 9, 10]⟩)⟩
    · walk_at "gs"
      refine h_mkW (c := .set xb v1) (sv := .non) (tv := .ref pb) h9 fun w1 dx1 pb1 pt1 pn1 H10 n1 n2 n3 n4 h10 => ?_
      obtain ⟨acc, a1, a2, a3⟩ := h_accL (y := .ref w1) 4 h10 rfl nr (by rw [sizeLine_eq]; exact (by decide : 1 < 16777216))
      exact ⟨acc, a1, a2, nr, .inr (.inr ⟨rfl, w0, dx0, pb0, pt0, pn0, w1, dx1, pb1, pt1, pn1, f0, ⟨n1, n2, n3⟩, a3.pick [4, 5, 6, 7, 8, 9, 10, 0, 1, 2, 3, 11, 12, 13, 14]⟩)⟩
    · omega
  rintro wl' H24 ⟨nwl, hz⟩
  rcases hz with ⟨z, _⟩ | ⟨z, _⟩ | ⟨_, w0, dx0, pb0, pt0, pn0, w1, dx1, pb1, pt1, pn1, f0, f1, h30⟩
  · exact nomatch z
  · exact nomatch z
  clear h29
  walk_at "gs"
  rename_i rr0 H25 nrr0 h31 rr1 H26 nrr1 h32 pl H27 npl h33 z0 H28 nz0 h34
  refine h_rep 0 h34 rfl (by omega) (by omega) fun o0 H29 no0 h35 => ?_
  walk_at "gs"
  rename_i z5 H30 nz5 h36
  refine h_rep 0 h36 rfl (by decide) (by decide) fun o1 H31 no1 h37 => ?_
  walk_at "gs"
  refine h_cat 2 0 h37 rfl rfl (by rw [List.length_replicate, List.length_replicate, sizeLine_eq]; show ((n : Int)).toNat + 8 ≤ _; omega) fun ol H32 nol h38 => ?_
  clear h30 h31 h32 h33 h34 h35 h36 h37
  subst na
  have h39 := h38.pick [11, 12, 13, 14, 15, 16, 17, 18, 20, 8, 5, 7, 6, 0, 19, 21, 22]
  have fit0 : (Cf.set xa v0).Fit D0.length none (some 3) := ⟨fun x e => (nomatch e), fun x e => by cases e; exact ⟨3, rfl, by omega⟩⟩
  have fit1 : (Cf.set xb v1).Fit D0.length none (some 3) := ⟨fun x e => (nomatch e), fun x e => by cases e; exact ⟨3, rfl, by omega⟩⟩
  have okw0 : (Cf.set xa v0).Ok := ⟨fun x e => (nomatch e), fun x e => by cases e; exact oka, fun _ v' e => by cases e; exact hv0⟩
  have okw1 : (Cf.set xb v1).Ok := ⟨fun x e => (nomatch e), fun x e => by cases e; exact okb, fun _ v' e => by cases e; exact hv1⟩
  walk_at "gs"
  refine h_run (p0 := (none, some 3)) (p1 := (none, some 3)) (c0 := .set xa v0) (c1 := .set xb v1) (D := D0) (ks := List.replicate xa.n 0 ++ List.replicate 8 1) (X := [_, _, _]) h39 .non (h38.im 0 _ _ rfl) .non (h38.im 1 _ _ rfl) okw0 okw1 fit0 fit1 (fun z hz => ?_) (by rw [List.length_append, List.length_replicate, List.length_replicate]; omega) (fun x hx => ?_) fun tl t0 t1' H33 ntl h40 => ?_
  · rcases List.mem_append.mp hz with hz | hz
    · exact .inl (List.eq_of_mem_replicate hz)
    · exact .inr (List.eq_of_mem_replicate hz)
  · simp only [List.mem_cons, List.not_mem_nil, or_false] at hx
    rcases hx with e | e | e | e | e | e | e
    · exact e ▸ f0.1
    · exact e ▸ f0.2.1
    · exact e ▸ f0.2.2
    · exact e ▸ f1.1
    · exact e ▸ f1.2.1
    · exact e ▸ f1.2.2
    · exact e ▸ nd
  clear h38 h39
  walk_at "gs"
  rename_i x H34 nx h41 tq1 H35 h42 tq2 H36 h43 le H37 nle h44 y H38 ny h45
  clear h40 h41 h42 h43 h44
  obtain ⟨e0, e1, e2⟩ := run_lost okw0 okw1 nb' wa wb (by omega) bD
  have dxx := dp_pair h45 2 3 4 rfl rfl rfl (h45.im 2 _ _ rfl) (h45.im 3 _ _ rfl)
  have dyy := dp_pair h45 0 1 10 rfl rfl rfl (h45.im 1 _ _ rfl) (h45.im 0 _ _ rfl)
  rw [e0, e1, e2] at dxx
  have sd : shw 1 1202 (.tuple (oT (.done none))) := shw_dn (r := none) fun i hi => (nomatch hi)
  have pb' : Byt (putSeg D0 3 (wr5 xa (seg D0 3 xa.n) v0)) := byt_putSeg bD (wr5_byt sl3)
  refine h_same dxx dyy (shw_pair sd sd (fun z hz => by have := pb' z hz; omega) (by rw [putSeg_len (by rw [wl]; omega)]; omega)) ?_
  exact k H38 j9 (by omega) (by omega) h45.kp (h45.raw 11 rfl)

def t_law (K : PySem.W.Frag) (A : Ad) : TS :=
  (tSeq (tAsg (tLst (tCons (tCall (sp__law_digits K A) [] E0 (tCons (mV 0) (tCons (tC (.int 0)) (tCons (tC (.int 40)) tNil)))) (tCons (tC (.int 0)) tNil))) (gName 1))
  (tSeq (tFor (jR1 (tCons (tC (.int 3)) tNil)) (gName 2)
    (mIf (tOr (tNot (mTr K (tCall (sp__law_apart K A) [] E0 (tCons (mV 1) tNil)))) (tNot (mTr K (tCall (sp__law_lost K A) [] E0 (tCons (mV 1) tNil)))))
    (tRet (tC (.bl false)))
    tNext))
  (tRet (tC (.bl true)))))
theorem rd_law {K : PySem.W.Frag} {A : Ad} {vs : List V} {H : Hp} {Q : VK} {E : XK} (h : sp_law K A vs H Q E) :
    t_law K A { nx := fun _ H' => Q .non H', rt := Q } (start ["_law_script", "_law_box", "_law_turn"] vs) H := by
  obtain ⟨a, ns, rfl, hS, k⟩ := h
  show t_law K A _ [some (.ref a), none, none] H
  unfold t_law
  have hL : Led K H [] H [] [] := Led.start
  walk_at "gs"
  refine ⟨a, ns, 0, 40, rfl, hS, by omega, by omega, by omega, by omega, fun g H1 ds s1 ng hg => ?_⟩
  have h1 : Led K H [] H1 [(g, .raw (.lst (ds.map V.int)))] [] := hL.new s1 ng hg
  walk_at "gs"
  rename_i b H2 nb h2
  refine lpR (fun t σ H3 => ∃ (j : Int) (y2 : Option V), σ = [some (.ref a), some (.ref b), y2] ∧ (0 ≤ j ∧ j ≤ 10000 * t) ∧
      Led K H [] H3 [(b, .raw (.lst [.ref g, .int j])), (g, .raw (.lst (ds.map V.int)))] [])
    ⟨0, _, rfl, by omega, h2⟩ ?_ ?_
  · clear h2 h1 hL
    rintro t σ H3 ht ⟨j, y2, rfl, hj, h3⟩
    have ht3 : t < 3 := ht
    walk_at "gs"
    refine h_box 0 h3 rfl rfl (by omega) (by omega) nb fun H4 j4 j40 j41 h4 => ?_
    walk_at "gs"
    refine h_box 0 h4 rfl rfl (by omega) (by omega) nb fun H5 j5 j50 j51 h5 => ?_
    walk_at "gs"
    exact ⟨j5, _, rfl, by omega, h5⟩
  · rintro σ H3 ⟨j, y2, rfl, hj, h3⟩
    walk_at "gs"
    exact k _

def topS (i : Nat) : Stmt := PySem.Challenge.pw_recstore_k14_works_woven.main.body.getD i (.Pass ⟨0, 0, 0, 0⟩)
abbrev s_power : Stmt := topS 5
abbrev nm_power : List Str := ["exponent", "number", "_"]
theorem sc_power : FnScope nm_power ["exponent"] (defScope s_power) := ⟨rfl, rfl, rfl, by decide +kernel, rfl, by decide +kernel, by decide +kernel⟩
abbrev s_bounds : Stmt := topS 6
abbrev nm_bounds : List Str := ["width", "signed"]
theorem sc_bounds : FnScope nm_bounds ["width", "signed"] (defScope s_bounds) := ⟨rfl, rfl, rfl, by decide +kernel, rfl, by decide +kernel, by decide +kernel⟩
abbrev s_word_number : Stmt := topS 7
abbrev nm_word_number : List Str := ["data", "offset", "size", "big", "number", "at", "byte"]
theorem sc_word_number : FnScope nm_word_number ["data", "offset", "size", "big"] (defScope s_word_number) := ⟨rfl, rfl, rfl, by decide +kernel, rfl, by decide +kernel, by decide +kernel⟩
abbrev s_put_word_number : Stmt := topS 8
abbrev nm_put_word_number : List Str := ["data", "offset", "size", "big", "number", "at"]
theorem sc_put_word_number : FnScope nm_put_word_number ["data", "offset", "size", "big", "number"] (defScope s_put_word_number) := ⟨rfl, rfl, rfl, by decide +kernel, rfl, by decide +kernel, by decide +kernel⟩
abbrev s_read_slot : Stmt := topS 9
abbrev nm_read_slot : List Str := ["data", "offset", "size", "big", "first", "width", "signed", "number"]
theorem sc_read_slot : FnScope nm_read_slot ["data", "offset", "size", "big", "first", "width", "signed"] (defScope s_read_slot) := ⟨rfl, rfl, rfl, by decide +kernel, rfl, by decide +kernel, by decide +kernel⟩
abbrev s_write_slot : Stmt := topS 10
abbrev nm_write_slot : List Str := ["data", "offset", "size", "big", "first", "width", "signed", "value", "least", "most", "number", "old", "new"]
theorem sc_write_slot : FnScope nm_write_slot ["data", "offset", "size", "big", "first", "width", "signed", "value"] (defScope s_write_slot) := ⟨rfl, rfl, rfl, by decide +kernel, rfl, by decide +kernel, by decide +kernel⟩
abbrev s_is_whole : Stmt := topS 12
abbrev nm_is_whole : List Str := ["slot"]
theorem sc_is_whole : FnScope nm_is_whole ["slot"] (defScope s_is_whole) := ⟨rfl, rfl, rfl, by decide +kernel, rfl, by decide +kernel, by decide +kernel⟩
abbrev s_Work___init__ : Stmt := inClass (topS 13) 0
abbrev nm_Work___init__ : List Str := ["self", "kind", "source", "target", "value"]
theorem sc_Work___init__ : FnScope nm_Work___init__ ["self", "kind", "source", "target", "value"] (defScope s_Work___init__) := ⟨rfl, rfl, rfl, by decide +kernel, rfl, by decide +kernel, by decide +kernel⟩
abbrev s_Work_written : Stmt := inClass (topS 13) 1
abbrev nm_Work_written : List Str := ["self"]
theorem sc_Work_written : FnScope nm_Work_written ["self"] (defScope s_Work_written) := ⟨rfl, rfl, rfl, by decide +kernel, rfl, by decide +kernel, by decide +kernel⟩
abbrev s_Work_source_reads : Stmt := inClass (topS 13) 2
abbrev nm_Work_source_reads : List Str := ["self"]
theorem sc_Work_source_reads : FnScope nm_Work_source_reads ["self"] (defScope s_Work_source_reads) := ⟨rfl, rfl, rfl, by decide +kernel, rfl, by decide +kernel, by decide +kernel⟩
abbrev s_Work_target_reads : Stmt := inClass (topS 13) 3
abbrev nm_Work_target_reads : List Str := ["self"]
theorem sc_Work_target_reads : FnScope nm_Work_target_reads ["self"] (defScope s_Work_target_reads) := ⟨rfl, rfl, rfl, by decide +kernel, rfl, by decide +kernel, by decide +kernel⟩
abbrev s_Work_writes : Stmt := inClass (topS 13) 4
abbrev nm_Work_writes : List Str := ["self"]
theorem sc_Work_writes : FnScope nm_Work_writes ["self"] (defScope s_Work_writes) := ⟨rfl, rfl, rfl, by decide +kernel, rfl, by decide +kernel, by decide +kernel⟩
abbrev s_Work_reads : Stmt := inClass (topS 13) 5
abbrev nm_Work_reads : List Str := ["self"]
theorem sc_Work_reads : FnScope nm_Work_reads ["self"] (defScope s_Work_reads) := ⟨rfl, rfl, rfl, by decide +kernel, rfl, by decide +kernel, by decide +kernel⟩
abbrev s_Work_total : Stmt := inClass (topS 13) 6
abbrev nm_Work_total : List Str := ["self"]
theorem sc_Work_total : FnScope nm_Work_total ["self"] (defScope s_Work_total) := ⟨rfl, rfl, rfl, by decide +kernel, rfl, by decide +kernel, by decide +kernel⟩
abbrev s_Work_read_source : Stmt := inClass (topS 13) 7
abbrev nm_Work_read_source : List Str := ["self", "size", "big", "first", "width", "signed", "number", "least", "most"]
theorem sc_Work_read_source : FnScope nm_Work_read_source ["self"] (defScope s_Work_read_source) := ⟨rfl, rfl, rfl, by decide +kernel, rfl, by decide +kernel, by decide +kernel⟩
abbrev s_Work_make_new : Stmt := inClass (topS 13) 8
abbrev nm_Work_make_new : List Str := ["self", "size", "big", "first", "width", "signed", "old", "number"]
theorem sc_Work_make_new : FnScope nm_Work_make_new ["self"] (defScope s_Work_make_new) := ⟨rfl, rfl, rfl, by decide +kernel, rfl, by decide +kernel, by decide +kernel⟩
abbrev s_Work_target_place : Stmt := inClass (topS 13) 9
abbrev nm_Work_target_place : List Str := ["self", "source_offset", "target_offset"]
theorem sc_Work_target_place : FnScope nm_Work_target_place ["self", "source_offset", "target_offset"] (defScope s_Work_target_place) := ⟨rfl, rfl, rfl, by decide +kernel, rfl, by decide +kernel, by decide +kernel⟩
abbrev s_Work_step : Stmt := inClass (topS 13) 10
abbrev nm_Work_step : List Str := ["self", "data", "source_offset", "target_offset", "at"]
theorem sc_Work_step : FnScope nm_Work_step ["self", "data", "source_offset", "target_offset"] (defScope s_Work_step) := ⟨rfl, rfl, rfl, by decide +kernel, rfl, by decide +kernel, by decide +kernel⟩
abbrev s_Work_write : Stmt := inClass (topS 13) 11
abbrev nm_Work_write : List Str := ["self", "data", "offset", "index"]
theorem sc_Work_write : FnScope nm_Work_write ["self", "data", "offset", "index"] (defScope s_Work_write) := ⟨rfl, rfl, rfl, by decide +kernel, rfl, by decide +kernel, by decide +kernel⟩
abbrev s__law_cell : Stmt := topS 15
abbrev nm__law_cell : List Str := ["_law_script", "_law_k"]
theorem sc__law_cell : FnScope nm__law_cell ["_law_script", "_law_k"] (defScope s__law_cell) := ⟨rfl, rfl, rfl, by decide +kernel, rfl, by decide +kernel, by decide +kernel⟩
abbrev s__law_digits : Stmt := topS 16
abbrev nm__law_digits : List Str := ["_law_script", "_law_first", "_law_last", "_law_digits_here", "_law_k", "_law_cell_here", "_law_turn", "_law_seed"]
theorem sc__law_digits : FnScope nm__law_digits ["_law_script", "_law_first", "_law_last"] (defScope s__law_digits) := ⟨rfl, rfl, rfl, by decide +kernel, rfl, by decide +kernel, by decide +kernel⟩
abbrev s__law_draw : Stmt := topS 17
abbrev nm__law_draw : List Str := ["_law_box", "_law_many", "_law_at"]
theorem sc__law_draw : FnScope nm__law_draw ["_law_box", "_law_many"] (defScope s__law_draw) := ⟨rfl, rfl, rfl, by decide +kernel, rfl, by decide +kernel, by decide +kernel⟩
abbrev s__law_same : Stmt := topS 18
abbrev nm__law_same : List Str := ["_law_actual", "_law_due"]
theorem sc__law_same : FnScope nm__law_same ["_law_actual", "_law_due"] (defScope s__law_same) := ⟨rfl, rfl, rfl, by decide +kernel, rfl, by decide +kernel, by decide +kernel⟩
abbrev s__law_number : Stmt := topS 19
abbrev nm__law_number : List Str := ["_law_digits_here", "_law_big", "_law_number_here", "_law_rows", "_law_digit"]
theorem sc__law_number : FnScope nm__law_number ["_law_digits_here", "_law_big"] (defScope s__law_number) := ⟨rfl, rfl, rfl, by decide +kernel, rfl, by decide +kernel, by decide +kernel⟩
abbrev s__law_with : Stmt := topS 21
abbrev nm__law_with : List Str := ["_law_digits_here", "_law_slot_here", "_law_value", "_law_size", "_law_big", "_law_first", "_law_width", "_law_signed", "_law_number_here", "_law_old", "_law_rows", "_law_k"]
theorem sc__law_with : FnScope nm__law_with ["_law_digits_here", "_law_slot_here", "_law_value"] (defScope s__law_with) := ⟨rfl, rfl, rfl, by decide +kernel, rfl, by decide +kernel, by decide +kernel⟩
abbrev s__law_bounds : Stmt := topS 22
abbrev nm__law_bounds : List Str := ["_law_slot_here"]
theorem sc__law_bounds : FnScope nm__law_bounds ["_law_slot_here"] (defScope s__law_bounds) := ⟨rfl, rfl, rfl, by decide +kernel, rfl, by decide +kernel, by decide +kernel⟩
abbrev s__law_a_slot : Stmt := topS 24
abbrev nm__law_a_slot : List Str := ["_law_box", "_law_size", "_law_first", "_law_width"]
theorem sc__law_a_slot : FnScope nm__law_a_slot ["_law_box"] (defScope s__law_a_slot) := ⟨rfl, rfl, rfl, by decide +kernel, rfl, by decide +kernel, by decide +kernel⟩
abbrev s__law_some : Stmt := topS 25
abbrev nm__law_some : List Str := ["_law_box", "_law_slot_here", "_law_ends", "_law_span", "_law_kind"]
theorem sc__law_some : FnScope nm__law_some ["_law_box", "_law_slot_here"] (defScope s__law_some) := ⟨rfl, rfl, rfl, by decide +kernel, rfl, by decide +kernel, by decide +kernel⟩
abbrev s__law_some_work : Stmt := topS 26
abbrev nm__law_some_work : List Str := ["_law_box", "_law_kind", "_law_source", "_law_target", "_law_value"]
theorem sc__law_some_work : FnScope nm__law_some_work ["_law_box"] (defScope s__law_some_work) := ⟨rfl, rfl, rfl, by decide +kernel, rfl, by decide +kernel, by decide +kernel⟩
abbrev s__law_told : Stmt := topS 27
abbrev nm__law_told : List Str := ["_law_work", "_law_data", "_law_source_at", "_law_target_at"]
theorem sc__law_told : FnScope nm__law_told ["_law_work", "_law_data", "_law_source_at", "_law_target_at"] (defScope s__law_told) := ⟨rfl, rfl, rfl, by decide +kernel, rfl, by decide +kernel, by decide +kernel⟩
abbrev s__law_run : Stmt := topS 28
abbrev nm__law_run : List Str := ["_law_works", "_law_places", "_law_order", "_law_data", "_law_told_here", "_law_k"]
theorem sc__law_run : FnScope nm__law_run ["_law_works", "_law_places", "_law_order", "_law_data"] (defScope s__law_run) := ⟨rfl, rfl, rfl, by decide +kernel, rfl, by decide +kernel, by decide +kernel⟩
abbrev s__law_apart : Stmt := topS 29
abbrev nm__law_apart : List Str := ["_law_box", "_law_rows", "_law_data", "_law_places", "_law_k", "_law_row", "_law_order", "_law_works", "_law_again", "_law_other", "_law_told_here"]
theorem sc__law_apart : FnScope nm__law_apart ["_law_box"] (defScope s__law_apart) := ⟨rfl, rfl, rfl, by decide +kernel, rfl, by decide +kernel, by decide +kernel⟩
abbrev s__law_lost : Stmt := topS 30
abbrev nm__law_lost : List Str := ["_law_box", "_law_size", "_law_big", "_law_cut", "_law_slots", "_law_turn", "_law_data", "_law_values", "_law_due", "_law_works", "_law_told_here", "_law_k"]
theorem sc__law_lost : FnScope nm__law_lost ["_law_box"] (defScope s__law_lost) := ⟨rfl, rfl, rfl, by decide +kernel, rfl, by decide +kernel, by decide +kernel⟩
abbrev s_law : Stmt := topS 31
abbrev nm_law : List Str := ["_law_script", "_law_box", "_law_turn"]
theorem sc_law : FnScope nm_law ["_law_script"] (defScope s_law) := ⟨rfl, rfl, rfl, by decide +kernel, rfl, by decide +kernel, by decide +kernel⟩
/-- where the defs stand -/
structure Tops where
  a_power : Addr
  d_power : FuncData
  a_bounds : Addr
  d_bounds : FuncData
  a_word_number : Addr
  d_word_number : FuncData
  a_put_word_number : Addr
  d_put_word_number : FuncData
  a_read_slot : Addr
  d_read_slot : FuncData
  a_write_slot : Addr
  d_write_slot : FuncData
  a_is_whole : Addr
  d_is_whole : FuncData
  a_Work___init__ : Addr
  d_Work___init__ : FuncData
  a_Work_written : Addr
  d_Work_written : FuncData
  a_Work_source_reads : Addr
  d_Work_source_reads : FuncData
  a_Work_target_reads : Addr
  d_Work_target_reads : FuncData
  a_Work_writes : Addr
  d_Work_writes : FuncData
  a_Work_reads : Addr
  d_Work_reads : FuncData
  a_Work_total : Addr
  d_Work_total : FuncData
  a_Work_read_source : Addr
  d_Work_read_source : FuncData
  a_Work_make_new : Addr
  d_Work_make_new : FuncData
  a_Work_target_place : Addr
  d_Work_target_place : FuncData
  a_Work_step : Addr
  d_Work_step : FuncData
  a_Work_write : Addr
  d_Work_write : FuncData
  a__law_cell : Addr
  d__law_cell : FuncData
  a__law_digits : Addr
  d__law_digits : FuncData
  a__law_draw : Addr
  d__law_draw : FuncData
  a__law_same : Addr
  d__law_same : FuncData
  a__law_number : Addr
  d__law_number : FuncData
  a__law_with : Addr
  d__law_with : FuncData
  a__law_bounds : Addr
  d__law_bounds : FuncData
  a__law_a_slot : Addr
  d__law_a_slot : FuncData
  a__law_some : Addr
  d__law_some : FuncData
  a__law_some_work : Addr
  d__law_some_work : FuncData
  a__law_told : Addr
  d__law_told : FuncData
  a__law_run : Addr
  d__law_run : FuncData
  a__law_apart : Addr
  d__law_apart : FuncData
  a__law_lost : Addr
  d__law_lost : FuncData
  a_law : Addr
  d_law : FuncData
structure Top (K : PySem.W.Frag) (mg : Str → Option Value) (A : Ad) (W : Tops) : Prop where
  F_power : Fun K "power" "power" s_power W.a_power W.d_power
  b_power : Binds K W.d_power ["exponent"] []
  m_power : mg "power" = some (.ref W.a_power)
  F_bounds : Fun K "bounds" "bounds" s_bounds W.a_bounds W.d_bounds
  b_bounds : Binds K W.d_bounds ["width", "signed"] []
  m_bounds : mg "bounds" = some (.ref W.a_bounds)
  F_word_number : Fun K "word_number" "word_number" s_word_number W.a_word_number W.d_word_number
  b_word_number : Binds K W.d_word_number ["data", "offset", "size", "big"] []
  m_word_number : mg "word_number" = some (.ref W.a_word_number)
  F_put_word_number : Fun K "put_word_number" "put_word_number" s_put_word_number W.a_put_word_number W.d_put_word_number
  b_put_word_number : Binds K W.d_put_word_number ["data", "offset", "size", "big", "number"] []
  m_put_word_number : mg "put_word_number" = some (.ref W.a_put_word_number)
  F_read_slot : Fun K "read_slot" "read_slot" s_read_slot W.a_read_slot W.d_read_slot
  b_read_slot : Binds K W.d_read_slot ["data", "offset", "size", "big", "first", "width", "signed"] []
  m_read_slot : mg "read_slot" = some (.ref W.a_read_slot)
  F_write_slot : Fun K "write_slot" "write_slot" s_write_slot W.a_write_slot W.d_write_slot
  b_write_slot : Binds K W.d_write_slot ["data", "offset", "size", "big", "first", "width", "signed", "value"] []
  m_write_slot : mg "write_slot" = some (.ref W.a_write_slot)
  F_is_whole : Fun K "is_whole" "is_whole" s_is_whole W.a_is_whole W.d_is_whole
  b_is_whole : Binds K W.d_is_whole ["slot"] []
  m_is_whole : mg "is_whole" = some (.ref W.a_is_whole)
  F_Work___init__ : Fun K "__init__" "Work.__init__" s_Work___init__ W.a_Work___init__ W.d_Work___init__
  b_Work___init__ : Binds K W.d_Work___init__ ["self", "kind", "source", "target", "value"] []
  M_Work___init__ : Meth K A.c_Work "__init__" W.a_Work___init__
  F_Work_written : Fun K "written" "Work.written" s_Work_written W.a_Work_written W.d_Work_written
  b_Work_written : Binds K W.d_Work_written ["self"] []
  M_Work_written : Meth K A.c_Work "written" W.a_Work_written
  F_Work_source_reads : Fun K "source_reads" "Work.source_reads" s_Work_source_reads W.a_Work_source_reads W.d_Work_source_reads
  b_Work_source_reads : Binds K W.d_Work_source_reads ["self"] []
  M_Work_source_reads : Meth K A.c_Work "source_reads" W.a_Work_source_reads
  F_Work_target_reads : Fun K "target_reads" "Work.target_reads" s_Work_target_reads W.a_Work_target_reads W.d_Work_target_reads
  b_Work_target_reads : Binds K W.d_Work_target_reads ["self"] []
  M_Work_target_reads : Meth K A.c_Work "target_reads" W.a_Work_target_reads
  F_Work_writes : Fun K "writes" "Work.writes" s_Work_writes W.a_Work_writes W.d_Work_writes
  b_Work_writes : Binds K W.d_Work_writes ["self"] []
  M_Work_writes : Meth K A.c_Work "writes" W.a_Work_writes
  F_Work_reads : Fun K "reads" "Work.reads" s_Work_reads W.a_Work_reads W.d_Work_reads
  b_Work_reads : Binds K W.d_Work_reads ["self"] []
  M_Work_reads : Meth K A.c_Work "reads" W.a_Work_reads
  F_Work_total : Fun K "total" "Work.total" s_Work_total W.a_Work_total W.d_Work_total
  b_Work_total : Binds K W.d_Work_total ["self"] []
  M_Work_total : Meth K A.c_Work "total" W.a_Work_total
  F_Work_read_source : Fun K "read_source" "Work.read_source" s_Work_read_source W.a_Work_read_source W.d_Work_read_source
  b_Work_read_source : Binds K W.d_Work_read_source ["self"] []
  M_Work_read_source : Meth K A.c_Work "read_source" W.a_Work_read_source
  F_Work_make_new : Fun K "make_new" "Work.make_new" s_Work_make_new W.a_Work_make_new W.d_Work_make_new
  b_Work_make_new : Binds K W.d_Work_make_new ["self"] []
  M_Work_make_new : Meth K A.c_Work "make_new" W.a_Work_make_new
  F_Work_target_place : Fun K "target_place" "Work.target_place" s_Work_target_place W.a_Work_target_place W.d_Work_target_place
  b_Work_target_place : Binds K W.d_Work_target_place ["self", "source_offset", "target_offset"] []
  M_Work_target_place : Meth K A.c_Work "target_place" W.a_Work_target_place
  F_Work_step : Fun K "step" "Work.step" s_Work_step W.a_Work_step W.d_Work_step
  b_Work_step : Binds K W.d_Work_step ["self", "data", "source_offset", "target_offset"] []
  M_Work_step : Meth K A.c_Work "step" W.a_Work_step
  F_Work_write : Fun K "write" "Work.write" s_Work_write W.a_Work_write W.d_Work_write
  b_Work_write : Binds K W.d_Work_write ["self", "data", "offset", "index"] []
  M_Work_write : Meth K A.c_Work "write" W.a_Work_write
  F__law_cell : Fun K "_law_cell" "_law_cell" s__law_cell W.a__law_cell W.d__law_cell
  b__law_cell : Binds K W.d__law_cell ["_law_script", "_law_k"] []
  m__law_cell : mg "_law_cell" = some (.ref W.a__law_cell)
  F__law_digits : Fun K "_law_digits" "_law_digits" s__law_digits W.a__law_digits W.d__law_digits
  b__law_digits : Binds K W.d__law_digits ["_law_script", "_law_first", "_law_last"] []
  m__law_digits : mg "_law_digits" = some (.ref W.a__law_digits)
  F__law_draw : Fun K "_law_draw" "_law_draw" s__law_draw W.a__law_draw W.d__law_draw
  b__law_draw : Binds K W.d__law_draw ["_law_box", "_law_many"] []
  m__law_draw : mg "_law_draw" = some (.ref W.a__law_draw)
  F__law_same : Fun K "_law_same" "_law_same" s__law_same W.a__law_same W.d__law_same
  b__law_same : Binds K W.d__law_same ["_law_actual", "_law_due"] []
  m__law_same : mg "_law_same" = some (.ref W.a__law_same)
  F__law_number : Fun K "_law_number" "_law_number" s__law_number W.a__law_number W.d__law_number
  b__law_number : Binds K W.d__law_number ["_law_digits_here", "_law_big"] []
  m__law_number : mg "_law_number" = some (.ref W.a__law_number)
  F__law_with : Fun K "_law_with" "_law_with" s__law_with W.a__law_with W.d__law_with
  b__law_with : Binds K W.d__law_with ["_law_digits_here", "_law_slot_here", "_law_value"] []
  m__law_with : mg "_law_with" = some (.ref W.a__law_with)
  F__law_bounds : Fun K "_law_bounds" "_law_bounds" s__law_bounds W.a__law_bounds W.d__law_bounds
  b__law_bounds : Binds K W.d__law_bounds ["_law_slot_here"] []
  m__law_bounds : mg "_law_bounds" = some (.ref W.a__law_bounds)
  F__law_a_slot : Fun K "_law_a_slot" "_law_a_slot" s__law_a_slot W.a__law_a_slot W.d__law_a_slot
  b__law_a_slot : Binds K W.d__law_a_slot ["_law_box"] []
  m__law_a_slot : mg "_law_a_slot" = some (.ref W.a__law_a_slot)
  F__law_some : Fun K "_law_some" "_law_some" s__law_some W.a__law_some W.d__law_some
  b__law_some : Binds K W.d__law_some ["_law_box", "_law_slot_here"] []
  m__law_some : mg "_law_some" = some (.ref W.a__law_some)
  F__law_some_work : Fun K "_law_some_work" "_law_some_work" s__law_some_work W.a__law_some_work W.d__law_some_work
  b__law_some_work : Binds K W.d__law_some_work ["_law_box"] []
  m__law_some_work : mg "_law_some_work" = some (.ref W.a__law_some_work)
  F__law_told : Fun K "_law_told" "_law_told" s__law_told W.a__law_told W.d__law_told
  b__law_told : Binds K W.d__law_told ["_law_work", "_law_data", "_law_source_at", "_law_target_at"] []
  m__law_told : mg "_law_told" = some (.ref W.a__law_told)
  F__law_run : Fun K "_law_run" "_law_run" s__law_run W.a__law_run W.d__law_run
  b__law_run : Binds K W.d__law_run ["_law_works", "_law_places", "_law_order", "_law_data"] []
  m__law_run : mg "_law_run" = some (.ref W.a__law_run)
  F__law_apart : Fun K "_law_apart" "_law_apart" s__law_apart W.a__law_apart W.d__law_apart
  b__law_apart : Binds K W.d__law_apart ["_law_box"] []
  m__law_apart : mg "_law_apart" = some (.ref W.a__law_apart)
  F__law_lost : Fun K "_law_lost" "_law_lost" s__law_lost W.a__law_lost W.d__law_lost
  b__law_lost : Binds K W.d__law_lost ["_law_box"] []
  m__law_lost : mg "_law_lost" = some (.ref W.a__law_lost)
  F_law : Fun K "law" "law" s_law W.a_law W.d_law
  b_law : Binds K W.d_law ["_law_script"] []
  m_law : mg "law" = some (.ref W.a_law)
  cl_Work : Cls K A.c_Work
  K_Work : Mk K A.c_Work W.a_Work___init__
  n_int : mg "int" = none
  n_len : mg "len" = none
  n_list : mg "list" = none
  n_range : mg "range" = none
  n_repr : mg "repr" = none
  m_OutOfRange : mg "OutOfRange" = some (.ref A.c_OutOfRange)
  m_Work : mg "Work" = some (.ref A.c_Work)
  x_OutOfRange : PySem.W.excIn K A.c_OutOfRange [.type "ValueError", .type "Exception", .type "BaseException", .type "object"] "ValueError.__new__" = true
  k_OutOfRange : PySem.W.keepIn K (.ref A.c_OutOfRange) = true
  bb_OutOfRange : PySem.W.subIn K (.ref A.c_OutOfRange) (.type "BaseException") = some true
  tt_OutOfRange : PySem.W.typeIn K (.ref A.c_OutOfRange) = some (.type "type")
  xc : XC K A
section
variable {P : Program} {w : World} {K : PySem.W.Frag} {mg : Str → Option Value} {base : Heap} {A : Ad} {W : Tops}
theorem ok_power (T : Top K mg A W) : FnOk P w K mg base CX0 1 W.a_power W.d_power ["exponent"] (sp_power K A) := by
  refine T.F_power.ok sc_power (fun vs H Q E h => by first | (obtain ⟨rfl, _⟩ := h; rfl) | (obtain ⟨_, rfl, _⟩ := h; rfl) | (obtain ⟨_, _, rfl, _⟩ := h; rfl) | (obtain ⟨_, _, _, rfl, _⟩ := h; rfl) | (obtain ⟨_, _, _, _, rfl, _⟩ := h; rfl) | (obtain ⟨_, _, _, _, _, rfl, _⟩ := h; rfl) | (obtain ⟨_, _, _, _, _, _, rfl, _⟩ := h; rfl) | (obtain ⟨_, _, _, _, _, _, _, rfl, _⟩ := h; rfl) | (obtain ⟨_, _, _, _, _, _, _, _, rfl, _⟩ := h; rfl) | (obtain ⟨_, _, _, _, _, _, _, _, _, rfl, _⟩ := h; rfl) | (obtain ⟨_, _, _, _, _, _, _, _, _, _, rfl, _⟩ := h; rfl) | (obtain ⟨_, _, _, _, _, _, _, _, _, _, _, rfl, _⟩ := h; rfl) | (obtain ⟨_, _, _, _, _, _, _, _, _, _, _, _, rfl, _⟩ := h; rfl) | (obtain ⟨_, _, _, _, _, _, _, _, _, _, _, _, _, rfl, _⟩ := h; rfl) | (obtain ⟨_, _, _, _, _, _, _, _, _, _, _, _, _, _, rfl, _⟩ := h; rfl) | (obtain ⟨_, _, _, _, _, _, _, _, _, _, _, _, _, _, _, rfl, _⟩ := h; rfl) | (obtain ⟨_, _, _, _, _, _, _, _, _, _, _, _, _, _, _, _, rfl, _⟩ := h; rfl) | (obtain ⟨_, _, _, _, _, _, _, _, _, _, _, _, _, _, _, _, _, rfl, _⟩ := h; rfl) | (obtain ⟨_, _, _, _, _, _, _, _, _, _, _, _, _, _, _, _, _, _, rfl, _⟩ := h; rfl) | (obtain ⟨_, _, _, _, _, _, _, _, _, _, _, _, _, _, _, _, _, _, _, rfl, _⟩ := h; rfl) | (obtain ⟨_, _, _, _, _, _, _, _, _, _, _, _, _, _, _, _, _, _, _, _, rfl, _⟩ := h; rfl) | (obtain ⟨_, _, _, _, _, _, _, _, _, _, _, _, _, _, _, _, _, _, _, _, _, rfl, _⟩ := h; rfl) | (obtain ⟨_, _, _, _, _, _, _, _, _, _, _, _, _, _, _, _, _, _, _, _, _, _, rfl, _⟩ := h; rfl) | (obtain ⟨_, _, _, _, _, _, _, _, _, _, _, _, _, _, _, _, _, _, _, _, _, _, _, rfl, _⟩ := h; rfl) | (obtain ⟨_, _, _, _, _, _, _, _, _, _, _, _, _, _, _, _, _, _, _, _, _, _, _, _, rfl, _⟩ := h; rfl) | (obtain ⟨_, _, _, _, _, _, _, _, _, _, _, _, _, _, _, _, _, _, _, _, _, _, _, _, _, rfl, _⟩ := h; rfl) | (obtain ⟨_, _, _, _, _, _, _, _, _, _, _, _, _, _, _, _, _, _, _, _, _, _, _, _, _, _, rfl, _⟩ := h; rfl) | (obtain ⟨_, _, _, _, _, _, _, _, _, _, _, _, _, _, _, _, _, _, _, _, _, _, _, _, _, _, _, rfl, _⟩ := h; rfl) | (obtain ⟨_, _, _, _, _, _, _, _, _, _, _, _, _, _, _, _, _, _, _, _, _, _, _, _, _, _, _, _, rfl, _⟩ := h; rfl) | (obtain ⟨_, _, _, _, _, _, _, _, _, _, _, _, _, _, _, _, _, _, _, _, _, _, _, _, _, _, _, _, _, rfl, _⟩ := h; rfl) | (obtain ⟨_, _, _, _, _, _, _, _, _, _, _, _, _, _, _, _, _, _, _, _, _, _, _, _, _, _, _, _, _, _, rfl, _⟩ := h; rfl) | (obtain ⟨_, _, _, _, _, _, _, _, _, _, _, _, _, _, _, _, _, _, _, _, _, _, _, _, _, _, _, _, _, _, _, rfl, _⟩ := h; rfl)) (fun cdv A' outer s H vs Q E hr h => ⟨t_power K A, ?_, rd_power h⟩)
  unfold t_power
  exact (pss_cons (ps_set (i := 1) sc_power.nd rfl (Or.inl rfl) pe_int)
  (pss_cons (ps_for PassesOwn.never rfl (i_rng1 (pi_range1 (by rfl) T.n_range (pa_cons (pn 0) pa_nil))) (pg_name (i := 2) sc_power.nd rfl (Or.inl rfl))
    (pss_one (ps_set (i := 1) sc_power.nd rfl (Or.inl rfl) (pe_op o_mul (pn 1) pe_int))))
  (pss_one (ps_ret (pn 1)))))
theorem ok_bounds (T : Top K mg A W) : FnOk P w K mg base CX0 2 W.a_bounds W.d_bounds ["width", "signed"] (sp_bounds K A) := by
  refine T.F_bounds.ok sc_bounds (fun vs H Q E h => by first | (obtain ⟨rfl, _⟩ := h; rfl) | (obtain ⟨_, rfl, _⟩ := h; rfl) | (obtain ⟨_, _, rfl, _⟩ := h; rfl) | (obtain ⟨_, _, _, rfl, _⟩ := h; rfl) | (obtain ⟨_, _, _, _, rfl, _⟩ := h; rfl) | (obtain ⟨_, _, _, _, _, rfl, _⟩ := h; rfl) | (obtain ⟨_, _, _, _, _, _, rfl, _⟩ := h; rfl) | (obtain ⟨_, _, _, _, _, _, _, rfl, _⟩ := h; rfl) | (obtain ⟨_, _, _, _, _, _, _, _, rfl, _⟩ := h; rfl) | (obtain ⟨_, _, _, _, _, _, _, _, _, rfl, _⟩ := h; rfl) | (obtain ⟨_, _, _, _, _, _, _, _, _, _, rfl, _⟩ := h; rfl) | (obtain ⟨_, _, _, _, _, _, _, _, _, _, _, rfl, _⟩ := h; rfl) | (obtain ⟨_, _, _, _, _, _, _, _, _, _, _, _, rfl, _⟩ := h; rfl) | (obtain ⟨_, _, _, _, _, _, _, _, _, _, _, _, _, rfl, _⟩ := h; rfl) | (obtain ⟨_, _, _, _, _, _, _, _, _, _, _, _, _, _, rfl, _⟩ := h; rfl) | (obtain ⟨_, _, _, _, _, _, _, _, _, _, _, _, _, _, _, rfl, _⟩ := h; rfl) | (obtain ⟨_, _, _, _, _, _, _, _, _, _, _, _, _, _, _, _, rfl, _⟩ := h; rfl) | (obtain ⟨_, _, _, _, _, _, _, _, _, _, _, _, _, _, _, _, _, rfl, _⟩ := h; rfl) | (obtain ⟨_, _, _, _, _, _, _, _, _, _, _, _, _, _, _, _, _, _, rfl, _⟩ := h; rfl) | (obtain ⟨_, _, _, _, _, _, _, _, _, _, _, _, _, _, _, _, _, _, _, rfl, _⟩ := h; rfl) | (obtain ⟨_, _, _, _, _, _, _, _, _, _, _, _, _, _, _, _, _, _, _, _, rfl, _⟩ := h; rfl) | (obtain ⟨_, _, _, _, _, _, _, _, _, _, _, _, _, _, _, _, _, _, _, _, _, rfl, _⟩ := h; rfl) | (obtain ⟨_, _, _, _, _, _, _, _, _, _, _, _, _, _, _, _, _, _, _, _, _, _, rfl, _⟩ := h; rfl) | (obtain ⟨_, _, _, _, _, _, _, _, _, _, _, _, _, _, _, _, _, _, _, _, _, _, _, rfl, _⟩ := h; rfl) | (obtain ⟨_, _, _, _, _, _, _, _, _, _, _, _, _, _, _, _, _, _, _, _, _, _, _, _, rfl, _⟩ := h; rfl) | (obtain ⟨_, _, _, _, _, _, _, _, _, _, _, _, _, _, _, _, _, _, _, _, _, _, _, _, _, rfl, _⟩ := h; rfl) | (obtain ⟨_, _, _, _, _, _, _, _, _, _, _, _, _, _, _, _, _, _, _, _, _, _, _, _, _, _, rfl, _⟩ := h; rfl) | (obtain ⟨_, _, _, _, _, _, _, _, _, _, _, _, _, _, _, _, _, _, _, _, _, _, _, _, _, _, _, rfl, _⟩ := h; rfl) | (obtain ⟨_, _, _, _, _, _, _, _, _, _, _, _, _, _, _, _, _, _, _, _, _, _, _, _, _, _, _, _, rfl, _⟩ := h; rfl) | (obtain ⟨_, _, _, _, _, _, _, _, _, _, _, _, _, _, _, _, _, _, _, _, _, _, _, _, _, _, _, _, _, rfl, _⟩ := h; rfl) | (obtain ⟨_, _, _, _, _, _, _, _, _, _, _, _, _, _, _, _, _, _, _, _, _, _, _, _, _, _, _, _, _, _, rfl, _⟩ := h; rfl) | (obtain ⟨_, _, _, _, _, _, _, _, _, _, _, _, _, _, _, _, _, _, _, _, _, _, _, _, _, _, _, _, _, _, _, rfl, _⟩ := h; rfl)) (fun cdv A' outer s H vs Q E hr h => ⟨t_bounds K A, ?_, rd_bounds h⟩)
  unfold t_bounds
  exact (pss_cons (p_if (p_truth (pn 1) (by intro _; rfl))
    (pss_one (ps_ret (pe_tup (pa_cons (pe_op o_sub pe_int (pe_call (ok_power T) (hr.mono (by decide)) (by rfl) T.m_power T.F_power.kp T.b_power .nil pass0 (pa_cons (pe_op o_sub (pn 0) pe_int) pa_nil))) (pa_cons (pe_op o_sub (pe_call (ok_power T) (hr.mono (by decide)) (by rfl) T.m_power T.F_power.kp T.b_power .nil pass0 (pa_cons (pe_op o_sub (pn 0) pe_int) pa_nil)) pe_int) pa_nil)))))
    pss_nil)
  (pss_one (ps_ret (pe_tup (pa_cons pe_int (pa_cons (pe_op o_sub (pe_call (ok_power T) (hr.mono (by decide)) (by rfl) T.m_power T.F_power.kp T.b_power .nil pass0 (pa_cons (pn 0) pa_nil)) pe_int) pa_nil))))))
theorem ok_word_number (T : Top K mg A W) : FnOk P w K mg base CX0 1 W.a_word_number W.d_word_number ["data", "offset", "size", "big"] (sp_word_number K A) := by
  refine T.F_word_number.ok sc_word_number (fun vs H Q E h => by first | (obtain ⟨rfl, _⟩ := h; rfl) | (obtain ⟨_, rfl, _⟩ := h; rfl) | (obtain ⟨_, _, rfl, _⟩ := h; rfl) | (obtain ⟨_, _, _, rfl, _⟩ := h; rfl) | (obtain ⟨_, _, _, _, rfl, _⟩ := h; rfl) | (obtain ⟨_, _, _, _, _, rfl, _⟩ := h; rfl) | (obtain ⟨_, _, _, _, _, _, rfl, _⟩ := h; rfl) | (obtain ⟨_, _, _, _, _, _, _, rfl, _⟩ := h; rfl) | (obtain ⟨_, _, _, _, _, _, _, _, rfl, _⟩ := h; rfl) | (obtain ⟨_, _, _, _, _, _, _, _, _, rfl, _⟩ := h; rfl) | (obtain ⟨_, _, _, _, _, _, _, _, _, _, rfl, _⟩ := h; rfl) | (obtain ⟨_, _, _, _, _, _, _, _, _, _, _, rfl, _⟩ := h; rfl) | (obtain ⟨_, _, _, _, _, _, _, _, _, _, _, _, rfl, _⟩ := h; rfl) | (obtain ⟨_, _, _, _, _, _, _, _, _, _, _, _, _, rfl, _⟩ := h; rfl) | (obtain ⟨_, _, _, _, _, _, _, _, _, _, _, _, _, _, rfl, _⟩ := h; rfl) | (obtain ⟨_, _, _, _, _, _, _, _, _, _, _, _, _, _, _, rfl, _⟩ := h; rfl) | (obtain ⟨_, _, _, _, _, _, _, _, _, _, _, _, _, _, _, _, rfl, _⟩ := h; rfl) | (obtain ⟨_, _, _, _, _, _, _, _, _, _, _, _, _, _, _, _, _, rfl, _⟩ := h; rfl) | (obtain ⟨_, _, _, _, _, _, _, _, _, _, _, _, _, _, _, _, _, _, rfl, _⟩ := h; rfl) | (obtain ⟨_, _, _, _, _, _, _, _, _, _, _, _, _, _, _, _, _, _, _, rfl, _⟩ := h; rfl) | (obtain ⟨_, _, _, _, _, _, _, _, _, _, _, _, _, _, _, _, _, _, _, _, rfl, _⟩ := h; rfl) | (obtain ⟨_, _, _, _, _, _, _, _, _, _, _, _, _, _, _, _, _, _, _, _, _, rfl, _⟩ := h; rfl) | (obtain ⟨_, _, _, _, _, _, _, _, _, _, _, _, _, _, _, _, _, _, _, _, _, _, rfl, _⟩ := h; rfl) | (obtain ⟨_, _, _, _, _, _, _, _, _, _, _, _, _, _, _, _, _, _, _, _, _, _, _, rfl, _⟩ := h; rfl) | (obtain ⟨_, _, _, _, _, _, _, _, _, _, _, _, _, _, _, _, _, _, _, _, _, _, _, _, rfl, _⟩ := h; rfl) | (obtain ⟨_, _, _, _, _, _, _, _, _, _, _, _, _, _, _, _, _, _, _, _, _, _, _, _, _, rfl, _⟩ := h; rfl) | (obtain ⟨_, _, _, _, _, _, _, _, _, _, _, _, _, _, _, _, _, _, _, _, _, _, _, _, _, _, rfl, _⟩ := h; rfl) | (obtain ⟨_, _, _, _, _, _, _, _, _, _, _, _, _, _, _, _, _, _, _, _, _, _, _, _, _, _, _, rfl, _⟩ := h; rfl) | (obtain ⟨_, _, _, _, _, _, _, _, _, _, _, _, _, _, _, _, _, _, _, _, _, _, _, _, _, _, _, _, rfl, _⟩ := h; rfl) | (obtain ⟨_, _, _, _, _, _, _, _, _, _, _, _, _, _, _, _, _, _, _, _, _, _, _, _, _, _, _, _, _, rfl, _⟩ := h; rfl) | (obtain ⟨_, _, _, _, _, _, _, _, _, _, _, _, _, _, _, _, _, _, _, _, _, _, _, _, _, _, _, _, _, _, rfl, _⟩ := h; rfl) | (obtain ⟨_, _, _, _, _, _, _, _, _, _, _, _, _, _, _, _, _, _, _, _, _, _, _, _, _, _, _, _, _, _, _, rfl, _⟩ := h; rfl)) (fun cdv A' outer s H vs Q E hr h => ⟨t_word_number K A, ?_, rd_word_number h⟩)
  unfold t_word_number
  exact (pss_cons (ps_set (i := 4) sc_word_number.nd rfl (Or.inl rfl) pe_int)
  (pss_cons (ps_for PassesOwn.never rfl (i_rng1 (pi_range1 (by rfl) T.n_range (pa_cons (pn 2) pa_nil))) (pg_name (i := 5) sc_word_number.nd rfl (Or.inl rfl))
    (pss_cons (ps_set (i := 6) sc_word_number.nd rfl (Or.inl rfl) (pe_ix ix_seq (pn 0) (pe_op o_add (pn 1) (p_ifE (p_truth (pn 3) (by intro _; rfl)) (pn 5) (pe_op o_sub (pe_op o_sub (pn 2) pe_int) (pn 5)))) (fun _ _ => rfl)))
  (pss_one (ps_set (i := 4) sc_word_number.nd rfl (Or.inl rfl) (pe_op o_add (pe_op o_mul (pn 4) pe_int) (pn 6))))))
  (pss_one (ps_ret (pn 4)))))
theorem ok_put_word_number (T : Top K mg A W) : FnOk P w K mg base CX0 1 W.a_put_word_number W.d_put_word_number ["data", "offset", "size", "big", "number"] (sp_put_word_number K A) := by
  refine T.F_put_word_number.ok sc_put_word_number (fun vs H Q E h => by first | (obtain ⟨rfl, _⟩ := h; rfl) | (obtain ⟨_, rfl, _⟩ := h; rfl) | (obtain ⟨_, _, rfl, _⟩ := h; rfl) | (obtain ⟨_, _, _, rfl, _⟩ := h; rfl) | (obtain ⟨_, _, _, _, rfl, _⟩ := h; rfl) | (obtain ⟨_, _, _, _, _, rfl, _⟩ := h; rfl) | (obtain ⟨_, _, _, _, _, _, rfl, _⟩ := h; rfl) | (obtain ⟨_, _, _, _, _, _, _, rfl, _⟩ := h; rfl) | (obtain ⟨_, _, _, _, _, _, _, _, rfl, _⟩ := h; rfl) | (obtain ⟨_, _, _, _, _, _, _, _, _, rfl, _⟩ := h; rfl) | (obtain ⟨_, _, _, _, _, _, _, _, _, _, rfl, _⟩ := h; rfl) | (obtain ⟨_, _, _, _, _, _, _, _, _, _, _, rfl, _⟩ := h; rfl) | (obtain ⟨_, _, _, _, _, _, _, _, _, _, _, _, rfl, _⟩ := h; rfl) | (obtain ⟨_, _, _, _, _, _, _, _, _, _, _, _, _, rfl, _⟩ := h; rfl) | (obtain ⟨_, _, _, _, _, _, _, _, _, _, _, _, _, _, rfl, _⟩ := h; rfl) | (obtain ⟨_, _, _, _, _, _, _, _, _, _, _, _, _, _, _, rfl, _⟩ := h; rfl) | (obtain ⟨_, _, _, _, _, _, _, _, _, _, _, _, _, _, _, _, rfl, _⟩ := h; rfl) | (obtain ⟨_, _, _, _, _, _, _, _, _, _, _, _, _, _, _, _, _, rfl, _⟩ := h; rfl) | (obtain ⟨_, _, _, _, _, _, _, _, _, _, _, _, _, _, _, _, _, _, rfl, _⟩ := h; rfl) | (obtain ⟨_, _, _, _, _, _, _, _, _, _, _, _, _, _, _, _, _, _, _, rfl, _⟩ := h; rfl) | (obtain ⟨_, _, _, _, _, _, _, _, _, _, _, _, _, _, _, _, _, _, _, _, rfl, _⟩ := h; rfl) | (obtain ⟨_, _, _, _, _, _, _, _, _, _, _, _, _, _, _, _, _, _, _, _, _, rfl, _⟩ := h; rfl) | (obtain ⟨_, _, _, _, _, _, _, _, _, _, _, _, _, _, _, _, _, _, _, _, _, _, rfl, _⟩ := h; rfl) | (obtain ⟨_, _, _, _, _, _, _, _, _, _, _, _, _, _, _, _, _, _, _, _, _, _, _, rfl, _⟩ := h; rfl) | (obtain ⟨_, _, _, _, _, _, _, _, _, _, _, _, _, _, _, _, _, _, _, _, _, _, _, _, rfl, _⟩ := h; rfl) | (obtain ⟨_, _, _, _, _, _, _, _, _, _, _, _, _, _, _, _, _, _, _, _, _, _, _, _, _, rfl, _⟩ := h; rfl) | (obtain ⟨_, _, _, _, _, _, _, _, _, _, _, _, _, _, _, _, _, _, _, _, _, _, _, _, _, _, rfl, _⟩ := h; rfl) | (obtain ⟨_, _, _, _, _, _, _, _, _, _, _, _, _, _, _, _, _, _, _, _, _, _, _, _, _, _, _, rfl, _⟩ := h; rfl) | (obtain ⟨_, _, _, _, _, _, _, _, _, _, _, _, _, _, _, _, _, _, _, _, _, _, _, _, _, _, _, _, rfl, _⟩ := h; rfl) | (obtain ⟨_, _, _, _, _, _, _, _, _, _, _, _, _, _, _, _, _, _, _, _, _, _, _, _, _, _, _, _, _, rfl, _⟩ := h; rfl) | (obtain ⟨_, _, _, _, _, _, _, _, _, _, _, _, _, _, _, _, _, _, _, _, _, _, _, _, _, _, _, _, _, _, rfl, _⟩ := h; rfl) | (obtain ⟨_, _, _, _, _, _, _, _, _, _, _, _, _, _, _, _, _, _, _, _, _, _, _, _, _, _, _, _, _, _, _, rfl, _⟩ := h; rfl)) (fun cdv A' outer s H vs Q E hr h => ⟨t_put_word_number K A, ?_, rd_put_word_number h⟩)
  unfold t_put_word_number
  exact (pss_one (ps_for PassesOwn.never rfl (i_rng1 (pi_range1 (by rfl) T.n_range (pa_cons (pn 2) pa_nil))) (pg_name (i := 5) sc_put_word_number.nd rfl (Or.inl rfl))
    (pss_cons (ps_asg (pe_op o_mod (pn 4) pe_int) (pg_sub (pn 0) (pe_op o_add (pn 1) (p_ifE (p_truth (pn 3) (by intro _; rfl)) (pe_op o_sub (pe_op o_sub (pn 2) pe_int) (pn 5)) (pn 5))) set_list))
  (pss_one (ps_set (i := 4) sc_put_word_number.nd rfl (Or.inl rfl) (pe_op o_fdiv (pn 4) pe_int))))))
theorem ok_read_slot (T : Top K mg A W) : FnOk P w K mg base CX0 2 W.a_read_slot W.d_read_slot ["data", "offset", "size", "big", "first", "width", "signed"] (sp_read_slot K A) := by
  refine T.F_read_slot.ok sc_read_slot (fun vs H Q E h => by first | (obtain ⟨rfl, _⟩ := h; rfl) | (obtain ⟨_, rfl, _⟩ := h; rfl) | (obtain ⟨_, _, rfl, _⟩ := h; rfl) | (obtain ⟨_, _, _, rfl, _⟩ := h; rfl) | (obtain ⟨_, _, _, _, rfl, _⟩ := h; rfl) | (obtain ⟨_, _, _, _, _, rfl, _⟩ := h; rfl) | (obtain ⟨_, _, _, _, _, _, rfl, _⟩ := h; rfl) | (obtain ⟨_, _, _, _, _, _, _, rfl, _⟩ := h; rfl) | (obtain ⟨_, _, _, _, _, _, _, _, rfl, _⟩ := h; rfl) | (obtain ⟨_, _, _, _, _, _, _, _, _, rfl, _⟩ := h; rfl) | (obtain ⟨_, _, _, _, _, _, _, _, _, _, rfl, _⟩ := h; rfl) | (obtain ⟨_, _, _, _, _, _, _, _, _, _, _, rfl, _⟩ := h; rfl) | (obtain ⟨_, _, _, _, _, _, _, _, _, _, _, _, rfl, _⟩ := h; rfl) | (obtain ⟨_, _, _, _, _, _, _, _, _, _, _, _, _, rfl, _⟩ := h; rfl) | (obtain ⟨_, _, _, _, _, _, _, _, _, _, _, _, _, _, rfl, _⟩ := h; rfl) | (obtain ⟨_, _, _, _, _, _, _, _, _, _, _, _, _, _, _, rfl, _⟩ := h; rfl) | (obtain ⟨_, _, _, _, _, _, _, _, _, _, _, _, _, _, _, _, rfl, _⟩ := h; rfl) | (obtain ⟨_, _, _, _, _, _, _, _, _, _, _, _, _, _, _, _, _, rfl, _⟩ := h; rfl) | (obtain ⟨_, _, _, _, _, _, _, _, _, _, _, _, _, _, _, _, _, _, rfl, _⟩ := h; rfl) | (obtain ⟨_, _, _, _, _, _, _, _, _, _, _, _, _, _, _, _, _, _, _, rfl, _⟩ := h; rfl) | (obtain ⟨_, _, _, _, _, _, _, _, _, _, _, _, _, _, _, _, _, _, _, _, rfl, _⟩ := h; rfl) | (obtain ⟨_, _, _, _, _, _, _, _, _, _, _, _, _, _, _, _, _, _, _, _, _, rfl, _⟩ := h; rfl) | (obtain ⟨_, _, _, _, _, _, _, _, _, _, _, _, _, _, _, _, _, _, _, _, _, _, rfl, _⟩ := h; rfl) | (obtain ⟨_, _, _, _, _, _, _, _, _, _, _, _, _, _, _, _, _, _, _, _, _, _, _, rfl, _⟩ := h; rfl) | (obtain ⟨_, _, _, _, _, _, _, _, _, _, _, _, _, _, _, _, _, _, _, _, _, _, _, _, rfl, _⟩ := h; rfl) | (obtain ⟨_, _, _, _, _, _, _, _, _, _, _, _, _, _, _, _, _, _, _, _, _, _, _, _, _, rfl, _⟩ := h; rfl) | (obtain ⟨_, _, _, _, _, _, _, _, _, _, _, _, _, _, _, _, _, _, _, _, _, _, _, _, _, _, rfl, _⟩ := h; rfl) | (obtain ⟨_, _, _, _, _, _, _, _, _, _, _, _, _, _, _, _, _, _, _, _, _, _, _, _, _, _, _, rfl, _⟩ := h; rfl) | (obtain ⟨_, _, _, _, _, _, _, _, _, _, _, _, _, _, _, _, _, _, _, _, _, _, _, _, _, _, _, _, rfl, _⟩ := h; rfl) | (obtain ⟨_, _, _, _, _, _, _, _, _, _, _, _, _, _, _, _, _, _, _, _, _, _, _, _, _, _, _, _, _, rfl, _⟩ := h; rfl) | (obtain ⟨_, _, _, _, _, _, _, _, _, _, _, _, _, _, _, _, _, _, _, _, _, _, _, _, _, _, _, _, _, _, rfl, _⟩ := h; rfl) | (obtain ⟨_, _, _, _, _, _, _, _, _, _, _, _, _, _, _, _, _, _, _, _, _, _, _, _, _, _, _, _, _, _, _, rfl, _⟩ := h; rfl)) (fun cdv A' outer s H vs Q E hr h => ⟨t_read_slot K A, ?_, rd_read_slot h⟩)
  unfold t_read_slot
  exact (pss_cons (ps_set (i := 7) sc_read_slot.nd rfl (Or.inl rfl) (pe_op o_mod (pe_op o_fdiv (pe_call (ok_word_number T) (hr.mono (by decide)) (by rfl) T.m_word_number T.F_word_number.kp T.b_word_number .nil pass0 (pa_cons (pn 0) (pa_cons (pn 1) (pa_cons (pn 2) (pa_cons (pn 3) pa_nil))))) (pe_call (ok_power T) (hr.mono (by decide)) (by rfl) T.m_power T.F_power.kp T.b_power .nil pass0 (pa_cons (pn 4) pa_nil))) (pe_call (ok_power T) (hr.mono (by decide)) (by rfl) T.m_power T.F_power.kp T.b_power .nil pass0 (pa_cons (pn 5) pa_nil))))
  (pss_cons (p_if (PW.pt (pw_and (p_truth (pn 6) (by intro _; rfl)) (pw_and1 (m_test (pt_cmpR o_ge (pn 7) (pe_call (ok_power T) (hr.mono (by decide)) (by rfl) T.m_power T.F_power.kp T.b_power .nil pass0 (pa_cons (pe_op o_sub (pn 5) pe_int) pa_nil)) (nomark _))))))
    (pss_one (ps_ret (pe_op o_sub (pn 7) (pe_call (ok_power T) (hr.mono (by decide)) (by rfl) T.m_power T.F_power.kp T.b_power .nil pass0 (pa_cons (pn 5) pa_nil)))))
    pss_nil)
  (pss_one (ps_ret (pn 7)))))
theorem ok_write_slot (T : Top K mg A W) : FnOk P w K mg base (L2.CX P w) 3 W.a_write_slot W.d_write_slot ["data", "offset", "size", "big", "first", "width", "signed", "value"] (sp_write_slot K A) := by
  refine T.F_write_slot.okX sc_write_slot (fun vs H Q E h => by first | (obtain ⟨rfl, _⟩ := h; rfl) | (obtain ⟨_, rfl, _⟩ := h; rfl) | (obtain ⟨_, _, rfl, _⟩ := h; rfl) | (obtain ⟨_, _, _, rfl, _⟩ := h; rfl) | (obtain ⟨_, _, _, _, rfl, _⟩ := h; rfl) | (obtain ⟨_, _, _, _, _, rfl, _⟩ := h; rfl) | (obtain ⟨_, _, _, _, _, _, rfl, _⟩ := h; rfl) | (obtain ⟨_, _, _, _, _, _, _, rfl, _⟩ := h; rfl) | (obtain ⟨_, _, _, _, _, _, _, _, rfl, _⟩ := h; rfl) | (obtain ⟨_, _, _, _, _, _, _, _, _, rfl, _⟩ := h; rfl) | (obtain ⟨_, _, _, _, _, _, _, _, _, _, rfl, _⟩ := h; rfl) | (obtain ⟨_, _, _, _, _, _, _, _, _, _, _, rfl, _⟩ := h; rfl) | (obtain ⟨_, _, _, _, _, _, _, _, _, _, _, _, rfl, _⟩ := h; rfl) | (obtain ⟨_, _, _, _, _, _, _, _, _, _, _, _, _, rfl, _⟩ := h; rfl) | (obtain ⟨_, _, _, _, _, _, _, _, _, _, _, _, _, _, rfl, _⟩ := h; rfl) | (obtain ⟨_, _, _, _, _, _, _, _, _, _, _, _, _, _, _, rfl, _⟩ := h; rfl) | (obtain ⟨_, _, _, _, _, _, _, _, _, _, _, _, _, _, _, _, rfl, _⟩ := h; rfl) | (obtain ⟨_, _, _, _, _, _, _, _, _, _, _, _, _, _, _, _, _, rfl, _⟩ := h; rfl) | (obtain ⟨_, _, _, _, _, _, _, _, _, _, _, _, _, _, _, _, _, _, rfl, _⟩ := h; rfl) | (obtain ⟨_, _, _, _, _, _, _, _, _, _, _, _, _, _, _, _, _, _, _, rfl, _⟩ := h; rfl) | (obtain ⟨_, _, _, _, _, _, _, _, _, _, _, _, _, _, _, _, _, _, _, _, rfl, _⟩ := h; rfl) | (obtain ⟨_, _, _, _, _, _, _, _, _, _, _, _, _, _, _, _, _, _, _, _, _, rfl, _⟩ := h; rfl) | (obtain ⟨_, _, _, _, _, _, _, _, _, _, _, _, _, _, _, _, _, _, _, _, _, _, rfl, _⟩ := h; rfl) | (obtain ⟨_, _, _, _, _, _, _, _, _, _, _, _, _, _, _, _, _, _, _, _, _, _, _, rfl, _⟩ := h; rfl) | (obtain ⟨_, _, _, _, _, _, _, _, _, _, _, _, _, _, _, _, _, _, _, _, _, _, _, _, rfl, _⟩ := h; rfl) | (obtain ⟨_, _, _, _, _, _, _, _, _, _, _, _, _, _, _, _, _, _, _, _, _, _, _, _, _, rfl, _⟩ := h; rfl) | (obtain ⟨_, _, _, _, _, _, _, _, _, _, _, _, _, _, _, _, _, _, _, _, _, _, _, _, _, _, rfl, _⟩ := h; rfl) | (obtain ⟨_, _, _, _, _, _, _, _, _, _, _, _, _, _, _, _, _, _, _, _, _, _, _, _, _, _, _, rfl, _⟩ := h; rfl) | (obtain ⟨_, _, _, _, _, _, _, _, _, _, _, _, _, _, _, _, _, _, _, _, _, _, _, _, _, _, _, _, rfl, _⟩ := h; rfl) | (obtain ⟨_, _, _, _, _, _, _, _, _, _, _, _, _, _, _, _, _, _, _, _, _, _, _, _, _, _, _, _, _, rfl, _⟩ := h; rfl) | (obtain ⟨_, _, _, _, _, _, _, _, _, _, _, _, _, _, _, _, _, _, _, _, _, _, _, _, _, _, _, _, _, _, rfl, _⟩ := h; rfl) | (obtain ⟨_, _, _, _, _, _, _, _, _, _, _, _, _, _, _, _, _, _, _, _, _, _, _, _, _, _, _, _, _, _, _, rfl, _⟩ := h; rfl)) (fun cdv A' outer s H vs Q E hr h => ⟨t_write_slot K A (fun cls d _ H => E cls d H), ?_, rd_write_slot h⟩)
  unfold t_write_slot
  exact (pss_cons (ps_asg (pe_call (ok_bounds T) (hr.mono (by decide)) (by rfl) T.m_bounds T.F_bounds.kp T.b_bounds .nil pass0 (pa_cons (pn 5) (pa_cons (pn 6) pa_nil))) (pg_tup rfl (p_gcons (pg_name (i := 8) sc_write_slot.nd rfl (Or.inl rfl)) (p_gcons (pg_name (i := 9) sc_write_slot.nd rfl (Or.inl rfl)) p_gnil))))
  (pss_cons (p_if (PW.pt (pw_or (m_test (pt_cmpR o_lt (pn 7) (pn 8) (nomark _))) (pw_or1 (m_test (pt_cmpR o_gt (pn 7) (pn 9) (nomark _))))))
    (pss_one (p_raise0 rfl (takes_of rfl rfl rfl rfl) PySem.F.excBase_ValueError T.x_OutOfRange T.m_OutOfRange T.k_OutOfRange T.bb_OutOfRange T.tt_OutOfRange (by rfl)))
    pss_nil)
  (pss_cons (ps_set (i := 10) sc_write_slot.nd rfl (Or.inl rfl) (pe_call (ok_word_number T) (hr.mono (by decide)) (by rfl) T.m_word_number T.F_word_number.kp T.b_word_number .nil pass0 (pa_cons (pn 0) (pa_cons (pn 1) (pa_cons (pn 2) (pa_cons (pn 3) pa_nil))))))
  (pss_cons (ps_set (i := 11) sc_write_slot.nd rfl (Or.inl rfl) (pe_op o_mod (pe_op o_fdiv (pn 10) (pe_call (ok_power T) (hr.mono (by decide)) (by rfl) T.m_power T.F_power.kp T.b_power .nil pass0 (pa_cons (pn 4) pa_nil))) (pe_call (ok_power T) (hr.mono (by decide)) (by rfl) T.m_power T.F_power.kp T.b_power .nil pass0 (pa_cons (pn 5) pa_nil))))
  (pss_cons (ps_set (i := 12) sc_write_slot.nd rfl (Or.inl rfl) (pe_op o_mod (pn 7) (pe_call (ok_power T) (hr.mono (by decide)) (by rfl) T.m_power T.F_power.kp T.b_power .nil pass0 (pa_cons (pn 5) pa_nil))))
  (pss_one (ps_expr (pe_call (ok_put_word_number T) (hr.mono (by decide)) (by rfl) T.m_put_word_number T.F_put_word_number.kp T.b_put_word_number .nil pass0 (pa_cons (pn 0) (pa_cons (pn 1) (pa_cons (pn 2) (pa_cons (pn 3) (pa_cons (pe_op o_add (pn 10) (pe_op o_mul (pe_op o_sub (pn 12) (pn 11)) (pe_call (ok_power T) (hr.mono (by decide)) (by rfl) T.m_power T.F_power.kp T.b_power .nil pass0 (pa_cons (pn 4) pa_nil)))) pa_nil)))))))))))))
theorem ok_is_whole (T : Top K mg A W) : FnOk P w K mg base CX0 1 W.a_is_whole W.d_is_whole ["slot"] (sp_is_whole K A) := by
  refine T.F_is_whole.ok sc_is_whole (fun vs H Q E h => by first | (obtain ⟨rfl, _⟩ := h; rfl) | (obtain ⟨_, rfl, _⟩ := h; rfl) | (obtain ⟨_, _, rfl, _⟩ := h; rfl) | (obtain ⟨_, _, _, rfl, _⟩ := h; rfl) | (obtain ⟨_, _, _, _, rfl, _⟩ := h; rfl) | (obtain ⟨_, _, _, _, _, rfl, _⟩ := h; rfl) | (obtain ⟨_, _, _, _, _, _, rfl, _⟩ := h; rfl) | (obtain ⟨_, _, _, _, _, _, _, rfl, _⟩ := h; rfl) | (obtain ⟨_, _, _, _, _, _, _, _, rfl, _⟩ := h; rfl) | (obtain ⟨_, _, _, _, _, _, _, _, _, rfl, _⟩ := h; rfl) | (obtain ⟨_, _, _, _, _, _, _, _, _, _, rfl, _⟩ := h; rfl) | (obtain ⟨_, _, _, _, _, _, _, _, _, _, _, rfl, _⟩ := h; rfl) | (obtain ⟨_, _, _, _, _, _, _, _, _, _, _, _, rfl, _⟩ := h; rfl) | (obtain ⟨_, _, _, _, _, _, _, _, _, _, _, _, _, rfl, _⟩ := h; rfl) | (obtain ⟨_, _, _, _, _, _, _, _, _, _, _, _, _, _, rfl, _⟩ := h; rfl) | (obtain ⟨_, _, _, _, _, _, _, _, _, _, _, _, _, _, _, rfl, _⟩ := h; rfl) | (obtain ⟨_, _, _, _, _, _, _, _, _, _, _, _, _, _, _, _, rfl, _⟩ := h; rfl) | (obtain ⟨_, _, _, _, _, _, _, _, _, _, _, _, _, _, _, _, _, rfl, _⟩ := h; rfl) | (obtain ⟨_, _, _, _, _, _, _, _, _, _, _, _, _, _, _, _, _, _, rfl, _⟩ := h; rfl) | (obtain ⟨_, _, _, _, _, _, _, _, _, _, _, _, _, _, _, _, _, _, _, rfl, _⟩ := h; rfl) | (obtain ⟨_, _, _, _, _, _, _, _, _, _, _, _, _, _, _, _, _, _, _, _, rfl, _⟩ := h; rfl) | (obtain ⟨_, _, _, _, _, _, _, _, _, _, _, _, _, _, _, _, _, _, _, _, _, rfl, _⟩ := h; rfl) | (obtain ⟨_, _, _, _, _, _, _, _, _, _, _, _, _, _, _, _, _, _, _, _, _, _, rfl, _⟩ := h; rfl) | (obtain ⟨_, _, _, _, _, _, _, _, _, _, _, _, _, _, _, _, _, _, _, _, _, _, _, rfl, _⟩ := h; rfl) | (obtain ⟨_, _, _, _, _, _, _, _, _, _, _, _, _, _, _, _, _, _, _, _, _, _, _, _, rfl, _⟩ := h; rfl) | (obtain ⟨_, _, _, _, _, _, _, _, _, _, _, _, _, _, _, _, _, _, _, _, _, _, _, _, _, rfl, _⟩ := h; rfl) | (obtain ⟨_, _, _, _, _, _, _, _, _, _, _, _, _, _, _, _, _, _, _, _, _, _, _, _, _, _, rfl, _⟩ := h; rfl) | (obtain ⟨_, _, _, _, _, _, _, _, _, _, _, _, _, _, _, _, _, _, _, _, _, _, _, _, _, _, _, rfl, _⟩ := h; rfl) | (obtain ⟨_, _, _, _, _, _, _, _, _, _, _, _, _, _, _, _, _, _, _, _, _, _, _, _, _, _, _, _, rfl, _⟩ := h; rfl) | (obtain ⟨_, _, _, _, _, _, _, _, _, _, _, _, _, _, _, _, _, _, _, _, _, _, _, _, _, _, _, _, _, rfl, _⟩ := h; rfl) | (obtain ⟨_, _, _, _, _, _, _, _, _, _, _, _, _, _, _, _, _, _, _, _, _, _, _, _, _, _, _, _, _, _, rfl, _⟩ := h; rfl) | (obtain ⟨_, _, _, _, _, _, _, _, _, _, _, _, _, _, _, _, _, _, _, _, _, _, _, _, _, _, _, _, _, _, _, rfl, _⟩ := h; rfl)) (fun cdv A' outer s H vs Q E hr h => ⟨t_is_whole K A, ?_, rd_is_whole h⟩)
  unfold t_is_whole
  exact (pss_one (ps_ret (pe_cmpR (o_eq hr.units) (pe_ix ix_seq (pn 0) pe_int (fun _ _ => rfl)) (pe_op o_mul pe_int (pe_ix ix_seq (pn 0) pe_int (fun _ _ => rfl))) (nomark _))))
theorem ok_Work___init__ (T : Top K mg A W) : FnOk P w K mg base CX0 1 W.a_Work___init__ W.d_Work___init__ ["self", "kind", "source", "target", "value"] (sp_Work___init__ K A) := by
  refine T.F_Work___init__.ok sc_Work___init__ (fun vs H Q E h => by first | (obtain ⟨rfl, _⟩ := h; rfl) | (obtain ⟨_, rfl, _⟩ := h; rfl) | (obtain ⟨_, _, rfl, _⟩ := h; rfl) | (obtain ⟨_, _, _, rfl, _⟩ := h; rfl) | (obtain ⟨_, _, _, _, rfl, _⟩ := h; rfl) | (obtain ⟨_, _, _, _, _, rfl, _⟩ := h; rfl) | (obtain ⟨_, _, _, _, _, _, rfl, _⟩ := h; rfl) | (obtain ⟨_, _, _, _, _, _, _, rfl, _⟩ := h; rfl) | (obtain ⟨_, _, _, _, _, _, _, _, rfl, _⟩ := h; rfl) | (obtain ⟨_, _, _, _, _, _, _, _, _, rfl, _⟩ := h; rfl) | (obtain ⟨_, _, _, _, _, _, _, _, _, _, rfl, _⟩ := h; rfl) | (obtain ⟨_, _, _, _, _, _, _, _, _, _, _, rfl, _⟩ := h; rfl) | (obtain ⟨_, _, _, _, _, _, _, _, _, _, _, _, rfl, _⟩ := h; rfl) | (obtain ⟨_, _, _, _, _, _, _, _, _, _, _, _, _, rfl, _⟩ := h; rfl) | (obtain ⟨_, _, _, _, _, _, _, _, _, _, _, _, _, _, rfl, _⟩ := h; rfl) | (obtain ⟨_, _, _, _, _, _, _, _, _, _, _, _, _, _, _, rfl, _⟩ := h; rfl) | (obtain ⟨_, _, _, _, _, _, _, _, _, _, _, _, _, _, _, _, rfl, _⟩ := h; rfl) | (obtain ⟨_, _, _, _, _, _, _, _, _, _, _, _, _, _, _, _, _, rfl, _⟩ := h; rfl) | (obtain ⟨_, _, _, _, _, _, _, _, _, _, _, _, _, _, _, _, _, _, rfl, _⟩ := h; rfl) | (obtain ⟨_, _, _, _, _, _, _, _, _, _, _, _, _, _, _, _, _, _, _, rfl, _⟩ := h; rfl) | (obtain ⟨_, _, _, _, _, _, _, _, _, _, _, _, _, _, _, _, _, _, _, _, rfl, _⟩ := h; rfl) | (obtain ⟨_, _, _, _, _, _, _, _, _, _, _, _, _, _, _, _, _, _, _, _, _, rfl, _⟩ := h; rfl) | (obtain ⟨_, _, _, _, _, _, _, _, _, _, _, _, _, _, _, _, _, _, _, _, _, _, rfl, _⟩ := h; rfl) | (obtain ⟨_, _, _, _, _, _, _, _, _, _, _, _, _, _, _, _, _, _, _, _, _, _, _, rfl, _⟩ := h; rfl) | (obtain ⟨_, _, _, _, _, _, _, _, _, _, _, _, _, _, _, _, _, _, _, _, _, _, _, _, rfl, _⟩ := h; rfl) | (obtain ⟨_, _, _, _, _, _, _, _, _, _, _, _, _, _, _, _, _, _, _, _, _, _, _, _, _, rfl, _⟩ := h; rfl) | (obtain ⟨_, _, _, _, _, _, _, _, _, _, _, _, _, _, _, _, _, _, _, _, _, _, _, _, _, _, rfl, _⟩ := h; rfl) | (obtain ⟨_, _, _, _, _, _, _, _, _, _, _, _, _, _, _, _, _, _, _, _, _, _, _, _, _, _, _, rfl, _⟩ := h; rfl) | (obtain ⟨_, _, _, _, _, _, _, _, _, _, _, _, _, _, _, _, _, _, _, _, _, _, _, _, _, _, _, _, rfl, _⟩ := h; rfl) | (obtain ⟨_, _, _, _, _, _, _, _, _, _, _, _, _, _, _, _, _, _, _, _, _, _, _, _, _, _, _, _, _, rfl, _⟩ := h; rfl) | (obtain ⟨_, _, _, _, _, _, _, _, _, _, _, _, _, _, _, _, _, _, _, _, _, _, _, _, _, _, _, _, _, _, rfl, _⟩ := h; rfl) | (obtain ⟨_, _, _, _, _, _, _, _, _, _, _, _, _, _, _, _, _, _, _, _, _, _, _, _, _, _, _, _, _, _, _, rfl, _⟩ := h; rfl)) (fun cdv A' outer s H vs Q E hr h => ⟨t_Work___init__ K A, ?_, rd_Work___init__ T.xc h⟩)
  unfold t_Work___init__
  exact (pss_cons (ps_fld (pn 0) (pn 1) rfl)
  (pss_cons (ps_fld (pn 0) (pn 2) rfl)
  (pss_cons (ps_fld (pn 0) (pn 3) rfl)
  (pss_cons (ps_fld (pn 0) (pn 4) rfl)
  (pss_cons (ps_fld (pn 0) pe_int rfl)
  (pss_cons (ps_fld (pn 0) (pe_lst pa_nil) rfl)
  (pss_cons (ps_fld (pn 0) (pe_lst pa_nil) rfl)
  (pss_cons (ps_fld (pn 0) pe_non rfl)
  (pss_one (ps_fld (pn 0) (pe_lst pa_nil) rfl))))))))))
theorem ok_Work_written (T : Top K mg A W) : FnOk P w K mg base CX0 1 W.a_Work_written W.d_Work_written ["self"] (sp_Work_written K A) := by
  refine T.F_Work_written.ok sc_Work_written (fun vs H Q E h => by first | (obtain ⟨rfl, _⟩ := h; rfl) | (obtain ⟨_, rfl, _⟩ := h; rfl) | (obtain ⟨_, _, rfl, _⟩ := h; rfl) | (obtain ⟨_, _, _, rfl, _⟩ := h; rfl) | (obtain ⟨_, _, _, _, rfl, _⟩ := h; rfl) | (obtain ⟨_, _, _, _, _, rfl, _⟩ := h; rfl) | (obtain ⟨_, _, _, _, _, _, rfl, _⟩ := h; rfl) | (obtain ⟨_, _, _, _, _, _, _, rfl, _⟩ := h; rfl) | (obtain ⟨_, _, _, _, _, _, _, _, rfl, _⟩ := h; rfl) | (obtain ⟨_, _, _, _, _, _, _, _, _, rfl, _⟩ := h; rfl) | (obtain ⟨_, _, _, _, _, _, _, _, _, _, rfl, _⟩ := h; rfl) | (obtain ⟨_, _, _, _, _, _, _, _, _, _, _, rfl, _⟩ := h; rfl) | (obtain ⟨_, _, _, _, _, _, _, _, _, _, _, _, rfl, _⟩ := h; rfl) | (obtain ⟨_, _, _, _, _, _, _, _, _, _, _, _, _, rfl, _⟩ := h; rfl) | (obtain ⟨_, _, _, _, _, _, _, _, _, _, _, _, _, _, rfl, _⟩ := h; rfl) | (obtain ⟨_, _, _, _, _, _, _, _, _, _, _, _, _, _, _, rfl, _⟩ := h; rfl) | (obtain ⟨_, _, _, _, _, _, _, _, _, _, _, _, _, _, _, _, rfl, _⟩ := h; rfl) | (obtain ⟨_, _, _, _, _, _, _, _, _, _, _, _, _, _, _, _, _, rfl, _⟩ := h; rfl) | (obtain ⟨_, _, _, _, _, _, _, _, _, _, _, _, _, _, _, _, _, _, rfl, _⟩ := h; rfl) | (obtain ⟨_, _, _, _, _, _, _, _, _, _, _, _, _, _, _, _, _, _, _, rfl, _⟩ := h; rfl) | (obtain ⟨_, _, _, _, _, _, _, _, _, _, _, _, _, _, _, _, _, _, _, _, rfl, _⟩ := h; rfl) | (obtain ⟨_, _, _, _, _, _, _, _, _, _, _, _, _, _, _, _, _, _, _, _, _, rfl, _⟩ := h; rfl) | (obtain ⟨_, _, _, _, _, _, _, _, _, _, _, _, _, _, _, _, _, _, _, _, _, _, rfl, _⟩ := h; rfl) | (obtain ⟨_, _, _, _, _, _, _, _, _, _, _, _, _, _, _, _, _, _, _, _, _, _, _, rfl, _⟩ := h; rfl) | (obtain ⟨_, _, _, _, _, _, _, _, _, _, _, _, _, _, _, _, _, _, _, _, _, _, _, _, rfl, _⟩ := h; rfl) | (obtain ⟨_, _, _, _, _, _, _, _, _, _, _, _, _, _, _, _, _, _, _, _, _, _, _, _, _, rfl, _⟩ := h; rfl) | (obtain ⟨_, _, _, _, _, _, _, _, _, _, _, _, _, _, _, _, _, _, _, _, _, _, _, _, _, _, rfl, _⟩ := h; rfl) | (obtain ⟨_, _, _, _, _, _, _, _, _, _, _, _, _, _, _, _, _, _, _, _, _, _, _, _, _, _, _, rfl, _⟩ := h; rfl) | (obtain ⟨_, _, _, _, _, _, _, _, _, _, _, _, _, _, _, _, _, _, _, _, _, _, _, _, _, _, _, _, rfl, _⟩ := h; rfl) | (obtain ⟨_, _, _, _, _, _, _, _, _, _, _, _, _, _, _, _, _, _, _, _, _, _, _, _, _, _, _, _, _, rfl, _⟩ := h; rfl) | (obtain ⟨_, _, _, _, _, _, _, _, _, _, _, _, _, _, _, _, _, _, _, _, _, _, _, _, _, _, _, _, _, _, rfl, _⟩ := h; rfl) | (obtain ⟨_, _, _, _, _, _, _, _, _, _, _, _, _, _, _, _, _, _, _, _, _, _, _, _, _, _, _, _, _, _, _, rfl, _⟩ := h; rfl)) (fun cdv A' outer s H vs Q E hr h => ⟨t_Work_written K A, ?_, rd_Work_written T.xc h⟩)
  unfold t_Work_written
  exact (pss_one (ps_ret (p_ifE (m_test (pt_cmpR o_isN (pe_fld (pn 0) rfl) pe_non (nomark _))) (pe_fld (pn 0) rfl) (pe_fld (pn 0) rfl))))
theorem ok_Work_source_reads (T : Top K mg A W) : FnOk P w K mg base CX0 1 W.a_Work_source_reads W.d_Work_source_reads ["self"] (sp_Work_source_reads K A) := by
  refine T.F_Work_source_reads.ok sc_Work_source_reads (fun vs H Q E h => by first | (obtain ⟨rfl, _⟩ := h; rfl) | (obtain ⟨_, rfl, _⟩ := h; rfl) | (obtain ⟨_, _, rfl, _⟩ := h; rfl) | (obtain ⟨_, _, _, rfl, _⟩ := h; rfl) | (obtain ⟨_, _, _, _, rfl, _⟩ := h; rfl) | (obtain ⟨_, _, _, _, _, rfl, _⟩ := h; rfl) | (obtain ⟨_, _, _, _, _, _, rfl, _⟩ := h; rfl) | (obtain ⟨_, _, _, _, _, _, _, rfl, _⟩ := h; rfl) | (obtain ⟨_, _, _, _, _, _, _, _, rfl, _⟩ := h; rfl) | (obtain ⟨_, _, _, _, _, _, _, _, _, rfl, _⟩ := h; rfl) | (obtain ⟨_, _, _, _, _, _, _, _, _, _, rfl, _⟩ := h; rfl) | (obtain ⟨_, _, _, _, _, _, _, _, _, _, _, rfl, _⟩ := h; rfl) | (obtain ⟨_, _, _, _, _, _, _, _, _, _, _, _, rfl, _⟩ := h; rfl) | (obtain ⟨_, _, _, _, _, _, _, _, _, _, _, _, _, rfl, _⟩ := h; rfl) | (obtain ⟨_, _, _, _, _, _, _, _, _, _, _, _, _, _, rfl, _⟩ := h; rfl) | (obtain ⟨_, _, _, _, _, _, _, _, _, _, _, _, _, _, _, rfl, _⟩ := h; rfl) | (obtain ⟨_, _, _, _, _, _, _, _, _, _, _, _, _, _, _, _, rfl, _⟩ := h; rfl) | (obtain ⟨_, _, _, _, _, _, _, _, _, _, _, _, _, _, _, _, _, rfl, _⟩ := h; rfl) | (obtain ⟨_, _, _, _, _, _, _, _, _, _, _, _, _, _, _, _, _, _, rfl, _⟩ := h; rfl) | (obtain ⟨_, _, _, _, _, _, _, _, _, _, _, _, _, _, _, _, _, _, _, rfl, _⟩ := h; rfl) | (obtain ⟨_, _, _, _, _, _, _, _, _, _, _, _, _, _, _, _, _, _, _, _, rfl, _⟩ := h; rfl) | (obtain ⟨_, _, _, _, _, _, _, _, _, _, _, _, _, _, _, _, _, _, _, _, _, rfl, _⟩ := h; rfl) | (obtain ⟨_, _, _, _, _, _, _, _, _, _, _, _, _, _, _, _, _, _, _, _, _, _, rfl, _⟩ := h; rfl) | (obtain ⟨_, _, _, _, _, _, _, _, _, _, _, _, _, _, _, _, _, _, _, _, _, _, _, rfl, _⟩ := h; rfl) | (obtain ⟨_, _, _, _, _, _, _, _, _, _, _, _, _, _, _, _, _, _, _, _, _, _, _, _, rfl, _⟩ := h; rfl) | (obtain ⟨_, _, _, _, _, _, _, _, _, _, _, _, _, _, _, _, _, _, _, _, _, _, _, _, _, rfl, _⟩ := h; rfl) | (obtain ⟨_, _, _, _, _, _, _, _, _, _, _, _, _, _, _, _, _, _, _, _, _, _, _, _, _, _, rfl, _⟩ := h; rfl) | (obtain ⟨_, _, _, _, _, _, _, _, _, _, _, _, _, _, _, _, _, _, _, _, _, _, _, _, _, _, _, rfl, _⟩ := h; rfl) | (obtain ⟨_, _, _, _, _, _, _, _, _, _, _, _, _, _, _, _, _, _, _, _, _, _, _, _, _, _, _, _, rfl, _⟩ := h; rfl) | (obtain ⟨_, _, _, _, _, _, _, _, _, _, _, _, _, _, _, _, _, _, _, _, _, _, _, _, _, _, _, _, _, rfl, _⟩ := h; rfl) | (obtain ⟨_, _, _, _, _, _, _, _, _, _, _, _, _, _, _, _, _, _, _, _, _, _, _, _, _, _, _, _, _, _, rfl, _⟩ := h; rfl) | (obtain ⟨_, _, _, _, _, _, _, _, _, _, _, _, _, _, _, _, _, _, _, _, _, _, _, _, _, _, _, _, _, _, _, rfl, _⟩ := h; rfl)) (fun cdv A' outer s H vs Q E hr h => ⟨t_Work_source_reads K A, ?_, rd_Work_source_reads T.xc h⟩)
  unfold t_Work_source_reads
  exact (pss_one (ps_ret (p_ifE (m_test (pt_cmpR (o_eq hr.units) (pe_fld (pn 0) rfl) pe_str (nomark _))) pe_int (pe_ix ix_seq (pe_fld (pn 0) rfl) pe_int (fun _ _ => rfl)))))
theorem ok_Work_target_reads (T : Top K mg A W) : FnOk P w K mg base CX0 2 W.a_Work_target_reads W.d_Work_target_reads ["self"] (sp_Work_target_reads K A) := by
  refine T.F_Work_target_reads.ok sc_Work_target_reads (fun vs H Q E h => by first | (obtain ⟨rfl, _⟩ := h; rfl) | (obtain ⟨_, rfl, _⟩ := h; rfl) | (obtain ⟨_, _, rfl, _⟩ := h; rfl) | (obtain ⟨_, _, _, rfl, _⟩ := h; rfl) | (obtain ⟨_, _, _, _, rfl, _⟩ := h; rfl) | (obtain ⟨_, _, _, _, _, rfl, _⟩ := h; rfl) | (obtain ⟨_, _, _, _, _, _, rfl, _⟩ := h; rfl) | (obtain ⟨_, _, _, _, _, _, _, rfl, _⟩ := h; rfl) | (obtain ⟨_, _, _, _, _, _, _, _, rfl, _⟩ := h; rfl) | (obtain ⟨_, _, _, _, _, _, _, _, _, rfl, _⟩ := h; rfl) | (obtain ⟨_, _, _, _, _, _, _, _, _, _, rfl, _⟩ := h; rfl) | (obtain ⟨_, _, _, _, _, _, _, _, _, _, _, rfl, _⟩ := h; rfl) | (obtain ⟨_, _, _, _, _, _, _, _, _, _, _, _, rfl, _⟩ := h; rfl) | (obtain ⟨_, _, _, _, _, _, _, _, _, _, _, _, _, rfl, _⟩ := h; rfl) | (obtain ⟨_, _, _, _, _, _, _, _, _, _, _, _, _, _, rfl, _⟩ := h; rfl) | (obtain ⟨_, _, _, _, _, _, _, _, _, _, _, _, _, _, _, rfl, _⟩ := h; rfl) | (obtain ⟨_, _, _, _, _, _, _, _, _, _, _, _, _, _, _, _, rfl, _⟩ := h; rfl) | (obtain ⟨_, _, _, _, _, _, _, _, _, _, _, _, _, _, _, _, _, rfl, _⟩ := h; rfl) | (obtain ⟨_, _, _, _, _, _, _, _, _, _, _, _, _, _, _, _, _, _, rfl, _⟩ := h; rfl) | (obtain ⟨_, _, _, _, _, _, _, _, _, _, _, _, _, _, _, _, _, _, _, rfl, _⟩ := h; rfl) | (obtain ⟨_, _, _, _, _, _, _, _, _, _, _, _, _, _, _, _, _, _, _, _, rfl, _⟩ := h; rfl) | (obtain ⟨_, _, _, _, _, _, _, _, _, _, _, _, _, _, _, _, _, _, _, _, _, rfl, _⟩ := h; rfl) | (obtain ⟨_, _, _, _, _, _, _, _, _, _, _, _, _, _, _, _, _, _, _, _, _, _, rfl, _⟩ := h; rfl) | (obtain ⟨_, _, _, _, _, _, _, _, _, _, _, _, _, _, _, _, _, _, _, _, _, _, _, rfl, _⟩ := h; rfl) | (obtain ⟨_, _, _, _, _, _, _, _, _, _, _, _, _, _, _, _, _, _, _, _, _, _, _, _, rfl, _⟩ := h; rfl) | (obtain ⟨_, _, _, _, _, _, _, _, _, _, _, _, _, _, _, _, _, _, _, _, _, _, _, _, _, rfl, _⟩ := h; rfl) | (obtain ⟨_, _, _, _, _, _, _, _, _, _, _, _, _, _, _, _, _, _, _, _, _, _, _, _, _, _, rfl, _⟩ := h; rfl) | (obtain ⟨_, _, _, _, _, _, _, _, _, _, _, _, _, _, _, _, _, _, _, _, _, _, _, _, _, _, _, rfl, _⟩ := h; rfl) | (obtain ⟨_, _, _, _, _, _, _, _, _, _, _, _, _, _, _, _, _, _, _, _, _, _, _, _, _, _, _, _, rfl, _⟩ := h; rfl) | (obtain ⟨_, _, _, _, _, _, _, _, _, _, _, _, _, _, _, _, _, _, _, _, _, _, _, _, _, _, _, _, _, rfl, _⟩ := h; rfl) | (obtain ⟨_, _, _, _, _, _, _, _, _, _, _, _, _, _, _, _, _, _, _, _, _, _, _, _, _, _, _, _, _, _, rfl, _⟩ := h; rfl) | (obtain ⟨_, _, _, _, _, _, _, _, _, _, _, _, _, _, _, _, _, _, _, _, _, _, _, _, _, _, _, _, _, _, _, rfl, _⟩ := h; rfl)) (fun cdv A' outer s H vs Q E hr h => ⟨t_Work_target_reads K A, ?_, rd_Work_target_reads T.xc h⟩)
  unfold t_Work_target_reads
  exact (pss_cons (p_if (PW.pt (pw_or (m_test (pt_cmpR (o_nin (u65 hr)) (pe_fld (pn 0) rfl) (pe_tup (pa_cons pe_str (pa_cons pe_str pa_nil))) rfl)) (pw_or1 (p_truth (pe_call (ok_is_whole T) (hr.mono (by decide)) (by rfl) T.m_is_whole T.F_is_whole.kp T.b_is_whole .nil pass0 (pa_cons (pe_fld (pn 0) rfl) pa_nil)) (by intro _; rfl)))))
    (pss_one (ps_ret pe_int))
    pss_nil)
  (pss_one (ps_ret (pe_ix ix_seq (pe_fld (pn 0) rfl) pe_int (fun _ _ => rfl)))))
theorem ok_Work_writes (T : Top K mg A W) : FnOk P w K mg base CX0 2 W.a_Work_writes W.d_Work_writes ["self"] (sp_Work_writes K A) := by
  refine T.F_Work_writes.ok sc_Work_writes (fun vs H Q E h => by first | (obtain ⟨rfl, _⟩ := h; rfl) | (obtain ⟨_, rfl, _⟩ := h; rfl) | (obtain ⟨_, _, rfl, _⟩ := h; rfl) | (obtain ⟨_, _, _, rfl, _⟩ := h; rfl) | (obtain ⟨_, _, _, _, rfl, _⟩ := h; rfl) | (obtain ⟨_, _, _, _, _, rfl, _⟩ := h; rfl) | (obtain ⟨_, _, _, _, _, _, rfl, _⟩ := h; rfl) | (obtain ⟨_, _, _, _, _, _, _, rfl, _⟩ := h; rfl) | (obtain ⟨_, _, _, _, _, _, _, _, rfl, _⟩ := h; rfl) | (obtain ⟨_, _, _, _, _, _, _, _, _, rfl, _⟩ := h; rfl) | (obtain ⟨_, _, _, _, _, _, _, _, _, _, rfl, _⟩ := h; rfl) | (obtain ⟨_, _, _, _, _, _, _, _, _, _, _, rfl, _⟩ := h; rfl) | (obtain ⟨_, _, _, _, _, _, _, _, _, _, _, _, rfl, _⟩ := h; rfl) | (obtain ⟨_, _, _, _, _, _, _, _, _, _, _, _, _, rfl, _⟩ := h; rfl) | (obtain ⟨_, _, _, _, _, _, _, _, _, _, _, _, _, _, rfl, _⟩ := h; rfl) | (obtain ⟨_, _, _, _, _, _, _, _, _, _, _, _, _, _, _, rfl, _⟩ := h; rfl) | (obtain ⟨_, _, _, _, _, _, _, _, _, _, _, _, _, _, _, _, rfl, _⟩ := h; rfl) | (obtain ⟨_, _, _, _, _, _, _, _, _, _, _, _, _, _, _, _, _, rfl, _⟩ := h; rfl) | (obtain ⟨_, _, _, _, _, _, _, _, _, _, _, _, _, _, _, _, _, _, rfl, _⟩ := h; rfl) | (obtain ⟨_, _, _, _, _, _, _, _, _, _, _, _, _, _, _, _, _, _, _, rfl, _⟩ := h; rfl) | (obtain ⟨_, _, _, _, _, _, _, _, _, _, _, _, _, _, _, _, _, _, _, _, rfl, _⟩ := h; rfl) | (obtain ⟨_, _, _, _, _, _, _, _, _, _, _, _, _, _, _, _, _, _, _, _, _, rfl, _⟩ := h; rfl) | (obtain ⟨_, _, _, _, _, _, _, _, _, _, _, _, _, _, _, _, _, _, _, _, _, _, rfl, _⟩ := h; rfl) | (obtain ⟨_, _, _, _, _, _, _, _, _, _, _, _, _, _, _, _, _, _, _, _, _, _, _, rfl, _⟩ := h; rfl) | (obtain ⟨_, _, _, _, _, _, _, _, _, _, _, _, _, _, _, _, _, _, _, _, _, _, _, _, rfl, _⟩ := h; rfl) | (obtain ⟨_, _, _, _, _, _, _, _, _, _, _, _, _, _, _, _, _, _, _, _, _, _, _, _, _, rfl, _⟩ := h; rfl) | (obtain ⟨_, _, _, _, _, _, _, _, _, _, _, _, _, _, _, _, _, _, _, _, _, _, _, _, _, _, rfl, _⟩ := h; rfl) | (obtain ⟨_, _, _, _, _, _, _, _, _, _, _, _, _, _, _, _, _, _, _, _, _, _, _, _, _, _, _, rfl, _⟩ := h; rfl) | (obtain ⟨_, _, _, _, _, _, _, _, _, _, _, _, _, _, _, _, _, _, _, _, _, _, _, _, _, _, _, _, rfl, _⟩ := h; rfl) | (obtain ⟨_, _, _, _, _, _, _, _, _, _, _, _, _, _, _, _, _, _, _, _, _, _, _, _, _, _, _, _, _, rfl, _⟩ := h; rfl) | (obtain ⟨_, _, _, _, _, _, _, _, _, _, _, _, _, _, _, _, _, _, _, _, _, _, _, _, _, _, _, _, _, _, rfl, _⟩ := h; rfl) | (obtain ⟨_, _, _, _, _, _, _, _, _, _, _, _, _, _, _, _, _, _, _, _, _, _, _, _, _, _, _, _, _, _, _, rfl, _⟩ := h; rfl)) (fun cdv A' outer s H vs Q E hr h => ⟨t_Work_writes K A, ?_, rd_Work_writes T.xc h⟩)
  unfold t_Work_writes
  exact (pss_one (ps_ret (p_ifE (m_test (pt_cmpR (o_eq hr.units) (pe_fld (pn 0) rfl) pe_str (nomark _))) pe_int (pe_ix ix_seq (pe_meth0 (pn 0) T.cl_Work T.M_Work_written (ok_Work_written T) (hr.mono (by decide)) T.b_Work_written .nil pass0) pe_int (fun _ _ => rfl)))))
theorem ok_Work_reads (T : Top K mg A W) : FnOk P w K mg base CX0 3 W.a_Work_reads W.d_Work_reads ["self"] (sp_Work_reads K A) := by
  refine T.F_Work_reads.ok sc_Work_reads (fun vs H Q E h => by first | (obtain ⟨rfl, _⟩ := h; rfl) | (obtain ⟨_, rfl, _⟩ := h; rfl) | (obtain ⟨_, _, rfl, _⟩ := h; rfl) | (obtain ⟨_, _, _, rfl, _⟩ := h; rfl) | (obtain ⟨_, _, _, _, rfl, _⟩ := h; rfl) | (obtain ⟨_, _, _, _, _, rfl, _⟩ := h; rfl) | (obtain ⟨_, _, _, _, _, _, rfl, _⟩ := h; rfl) | (obtain ⟨_, _, _, _, _, _, _, rfl, _⟩ := h; rfl) | (obtain ⟨_, _, _, _, _, _, _, _, rfl, _⟩ := h; rfl) | (obtain ⟨_, _, _, _, _, _, _, _, _, rfl, _⟩ := h; rfl) | (obtain ⟨_, _, _, _, _, _, _, _, _, _, rfl, _⟩ := h; rfl) | (obtain ⟨_, _, _, _, _, _, _, _, _, _, _, rfl, _⟩ := h; rfl) | (obtain ⟨_, _, _, _, _, _, _, _, _, _, _, _, rfl, _⟩ := h; rfl) | (obtain ⟨_, _, _, _, _, _, _, _, _, _, _, _, _, rfl, _⟩ := h; rfl) | (obtain ⟨_, _, _, _, _, _, _, _, _, _, _, _, _, _, rfl, _⟩ := h; rfl) | (obtain ⟨_, _, _, _, _, _, _, _, _, _, _, _, _, _, _, rfl, _⟩ := h; rfl) | (obtain ⟨_, _, _, _, _, _, _, _, _, _, _, _, _, _, _, _, rfl, _⟩ := h; rfl) | (obtain ⟨_, _, _, _, _, _, _, _, _, _, _, _, _, _, _, _, _, rfl, _⟩ := h; rfl) | (obtain ⟨_, _, _, _, _, _, _, _, _, _, _, _, _, _, _, _, _, _, rfl, _⟩ := h; rfl) | (obtain ⟨_, _, _, _, _, _, _, _, _, _, _, _, _, _, _, _, _, _, _, rfl, _⟩ := h; rfl) | (obtain ⟨_, _, _, _, _, _, _, _, _, _, _, _, _, _, _, _, _, _, _, _, rfl, _⟩ := h; rfl) | (obtain ⟨_, _, _, _, _, _, _, _, _, _, _, _, _, _, _, _, _, _, _, _, _, rfl, _⟩ := h; rfl) | (obtain ⟨_, _, _, _, _, _, _, _, _, _, _, _, _, _, _, _, _, _, _, _, _, _, rfl, _⟩ := h; rfl) | (obtain ⟨_, _, _, _, _, _, _, _, _, _, _, _, _, _, _, _, _, _, _, _, _, _, _, rfl, _⟩ := h; rfl) | (obtain ⟨_, _, _, _, _, _, _, _, _, _, _, _, _, _, _, _, _, _, _, _, _, _, _, _, rfl, _⟩ := h; rfl) | (obtain ⟨_, _, _, _, _, _, _, _, _, _, _, _, _, _, _, _, _, _, _, _, _, _, _, _, _, rfl, _⟩ := h; rfl) | (obtain ⟨_, _, _, _, _, _, _, _, _, _, _, _, _, _, _, _, _, _, _, _, _, _, _, _, _, _, rfl, _⟩ := h; rfl) | (obtain ⟨_, _, _, _, _, _, _, _, _, _, _, _, _, _, _, _, _, _, _, _, _, _, _, _, _, _, _, rfl, _⟩ := h; rfl) | (obtain ⟨_, _, _, _, _, _, _, _, _, _, _, _, _, _, _, _, _, _, _, _, _, _, _, _, _, _, _, _, rfl, _⟩ := h; rfl) | (obtain ⟨_, _, _, _, _, _, _, _, _, _, _, _, _, _, _, _, _, _, _, _, _, _, _, _, _, _, _, _, _, rfl, _⟩ := h; rfl) | (obtain ⟨_, _, _, _, _, _, _, _, _, _, _, _, _, _, _, _, _, _, _, _, _, _, _, _, _, _, _, _, _, _, rfl, _⟩ := h; rfl) | (obtain ⟨_, _, _, _, _, _, _, _, _, _, _, _, _, _, _, _, _, _, _, _, _, _, _, _, _, _, _, _, _, _, _, rfl, _⟩ := h; rfl)) (fun cdv A' outer s H vs Q E hr h => ⟨t_Work_reads K A, ?_, rd_Work_reads h⟩)
  unfold t_Work_reads
  exact (pss_one (ps_ret (pe_op o_add (pe_meth0 (pn 0) T.cl_Work T.M_Work_source_reads (ok_Work_source_reads T) (hr.mono (by decide)) T.b_Work_source_reads .nil pass0) (pe_meth0 (pn 0) T.cl_Work T.M_Work_target_reads (ok_Work_target_reads T) (hr.mono (by decide)) T.b_Work_target_reads .nil pass0))))
theorem ok_Work_total (T : Top K mg A W) : FnOk P w K mg base CX0 4 W.a_Work_total W.d_Work_total ["self"] (sp_Work_total K A) := by
  refine T.F_Work_total.ok sc_Work_total (fun vs H Q E h => by first | (obtain ⟨rfl, _⟩ := h; rfl) | (obtain ⟨_, rfl, _⟩ := h; rfl) | (obtain ⟨_, _, rfl, _⟩ := h; rfl) | (obtain ⟨_, _, _, rfl, _⟩ := h; rfl) | (obtain ⟨_, _, _, _, rfl, _⟩ := h; rfl) | (obtain ⟨_, _, _, _, _, rfl, _⟩ := h; rfl) | (obtain ⟨_, _, _, _, _, _, rfl, _⟩ := h; rfl) | (obtain ⟨_, _, _, _, _, _, _, rfl, _⟩ := h; rfl) | (obtain ⟨_, _, _, _, _, _, _, _, rfl, _⟩ := h; rfl) | (obtain ⟨_, _, _, _, _, _, _, _, _, rfl, _⟩ := h; rfl) | (obtain ⟨_, _, _, _, _, _, _, _, _, _, rfl, _⟩ := h; rfl) | (obtain ⟨_, _, _, _, _, _, _, _, _, _, _, rfl, _⟩ := h; rfl) | (obtain ⟨_, _, _, _, _, _, _, _, _, _, _, _, rfl, _⟩ := h; rfl) | (obtain ⟨_, _, _, _, _, _, _, _, _, _, _, _, _, rfl, _⟩ := h; rfl) | (obtain ⟨_, _, _, _, _, _, _, _, _, _, _, _, _, _, rfl, _⟩ := h; rfl) | (obtain ⟨_, _, _, _, _, _, _, _, _, _, _, _, _, _, _, rfl, _⟩ := h; rfl) | (obtain ⟨_, _, _, _, _, _, _, _, _, _, _, _, _, _, _, _, rfl, _⟩ := h; rfl) | (obtain ⟨_, _, _, _, _, _, _, _, _, _, _, _, _, _, _, _, _, rfl, _⟩ := h; rfl) | (obtain ⟨_, _, _, _, _, _, _, _, _, _, _, _, _, _, _, _, _, _, rfl, _⟩ := h; rfl) | (obtain ⟨_, _, _, _, _, _, _, _, _, _, _, _, _, _, _, _, _, _, _, rfl, _⟩ := h; rfl) | (obtain ⟨_, _, _, _, _, _, _, _, _, _, _, _, _, _, _, _, _, _, _, _, rfl, _⟩ := h; rfl) | (obtain ⟨_, _, _, _, _, _, _, _, _, _, _, _, _, _, _, _, _, _, _, _, _, rfl, _⟩ := h; rfl) | (obtain ⟨_, _, _, _, _, _, _, _, _, _, _, _, _, _, _, _, _, _, _, _, _, _, rfl, _⟩ := h; rfl) | (obtain ⟨_, _, _, _, _, _, _, _, _, _, _, _, _, _, _, _, _, _, _, _, _, _, _, rfl, _⟩ := h; rfl) | (obtain ⟨_, _, _, _, _, _, _, _, _, _, _, _, _, _, _, _, _, _, _, _, _, _, _, _, rfl, _⟩ := h; rfl) | (obtain ⟨_, _, _, _, _, _, _, _, _, _, _, _, _, _, _, _, _, _, _, _, _, _, _, _, _, rfl, _⟩ := h; rfl) | (obtain ⟨_, _, _, _, _, _, _, _, _, _, _, _, _, _, _, _, _, _, _, _, _, _, _, _, _, _, rfl, _⟩ := h; rfl) | (obtain ⟨_, _, _, _, _, _, _, _, _, _, _, _, _, _, _, _, _, _, _, _, _, _, _, _, _, _, _, rfl, _⟩ := h; rfl) | (obtain ⟨_, _, _, _, _, _, _, _, _, _, _, _, _, _, _, _, _, _, _, _, _, _, _, _, _, _, _, _, rfl, _⟩ := h; rfl) | (obtain ⟨_, _, _, _, _, _, _, _, _, _, _, _, _, _, _, _, _, _, _, _, _, _, _, _, _, _, _, _, _, rfl, _⟩ := h; rfl) | (obtain ⟨_, _, _, _, _, _, _, _, _, _, _, _, _, _, _, _, _, _, _, _, _, _, _, _, _, _, _, _, _, _, rfl, _⟩ := h; rfl) | (obtain ⟨_, _, _, _, _, _, _, _, _, _, _, _, _, _, _, _, _, _, _, _, _, _, _, _, _, _, _, _, _, _, _, rfl, _⟩ := h; rfl)) (fun cdv A' outer s H vs Q E hr h => ⟨t_Work_total K A, ?_, rd_Work_total h⟩)
  unfold t_Work_total
  exact (pss_one (ps_ret (pe_op o_add (pe_meth0 (pn 0) T.cl_Work T.M_Work_reads (ok_Work_reads T) (hr.mono (by decide)) T.b_Work_reads .nil pass0) (pe_meth0 (pn 0) T.cl_Work T.M_Work_writes (ok_Work_writes T) (hr.mono (by decide)) T.b_Work_writes .nil pass0))))
theorem ok_Work_read_source (T : Top K mg A W) : FnOk P w K mg base (L2.CX P w) 3 W.a_Work_read_source W.d_Work_read_source ["self"] (sp_Work_read_source K A) := by
  refine T.F_Work_read_source.okX sc_Work_read_source (fun vs H Q E h => by first | (obtain ⟨rfl, _⟩ := h; rfl) | (obtain ⟨_, rfl, _⟩ := h; rfl) | (obtain ⟨_, _, rfl, _⟩ := h; rfl) | (obtain ⟨_, _, _, rfl, _⟩ := h; rfl) | (obtain ⟨_, _, _, _, rfl, _⟩ := h; rfl) | (obtain ⟨_, _, _, _, _, rfl, _⟩ := h; rfl) | (obtain ⟨_, _, _, _, _, _, rfl, _⟩ := h; rfl) | (obtain ⟨_, _, _, _, _, _, _, rfl, _⟩ := h; rfl) | (obtain ⟨_, _, _, _, _, _, _, _, rfl, _⟩ := h; rfl) | (obtain ⟨_, _, _, _, _, _, _, _, _, rfl, _⟩ := h; rfl) | (obtain ⟨_, _, _, _, _, _, _, _, _, _, rfl, _⟩ := h; rfl) | (obtain ⟨_, _, _, _, _, _, _, _, _, _, _, rfl, _⟩ := h; rfl) | (obtain ⟨_, _, _, _, _, _, _, _, _, _, _, _, rfl, _⟩ := h; rfl) | (obtain ⟨_, _, _, _, _, _, _, _, _, _, _, _, _, rfl, _⟩ := h; rfl) | (obtain ⟨_, _, _, _, _, _, _, _, _, _, _, _, _, _, rfl, _⟩ := h; rfl) | (obtain ⟨_, _, _, _, _, _, _, _, _, _, _, _, _, _, _, rfl, _⟩ := h; rfl) | (obtain ⟨_, _, _, _, _, _, _, _, _, _, _, _, _, _, _, _, rfl, _⟩ := h; rfl) | (obtain ⟨_, _, _, _, _, _, _, _, _, _, _, _, _, _, _, _, _, rfl, _⟩ := h; rfl) | (obtain ⟨_, _, _, _, _, _, _, _, _, _, _, _, _, _, _, _, _, _, rfl, _⟩ := h; rfl) | (obtain ⟨_, _, _, _, _, _, _, _, _, _, _, _, _, _, _, _, _, _, _, rfl, _⟩ := h; rfl) | (obtain ⟨_, _, _, _, _, _, _, _, _, _, _, _, _, _, _, _, _, _, _, _, rfl, _⟩ := h; rfl) | (obtain ⟨_, _, _, _, _, _, _, _, _, _, _, _, _, _, _, _, _, _, _, _, _, rfl, _⟩ := h; rfl) | (obtain ⟨_, _, _, _, _, _, _, _, _, _, _, _, _, _, _, _, _, _, _, _, _, _, rfl, _⟩ := h; rfl) | (obtain ⟨_, _, _, _, _, _, _, _, _, _, _, _, _, _, _, _, _, _, _, _, _, _, _, rfl, _⟩ := h; rfl) | (obtain ⟨_, _, _, _, _, _, _, _, _, _, _, _, _, _, _, _, _, _, _, _, _, _, _, _, rfl, _⟩ := h; rfl) | (obtain ⟨_, _, _, _, _, _, _, _, _, _, _, _, _, _, _, _, _, _, _, _, _, _, _, _, _, rfl, _⟩ := h; rfl) | (obtain ⟨_, _, _, _, _, _, _, _, _, _, _, _, _, _, _, _, _, _, _, _, _, _, _, _, _, _, rfl, _⟩ := h; rfl) | (obtain ⟨_, _, _, _, _, _, _, _, _, _, _, _, _, _, _, _, _, _, _, _, _, _, _, _, _, _, _, rfl, _⟩ := h; rfl) | (obtain ⟨_, _, _, _, _, _, _, _, _, _, _, _, _, _, _, _, _, _, _, _, _, _, _, _, _, _, _, _, rfl, _⟩ := h; rfl) | (obtain ⟨_, _, _, _, _, _, _, _, _, _, _, _, _, _, _, _, _, _, _, _, _, _, _, _, _, _, _, _, _, rfl, _⟩ := h; rfl) | (obtain ⟨_, _, _, _, _, _, _, _, _, _, _, _, _, _, _, _, _, _, _, _, _, _, _, _, _, _, _, _, _, _, rfl, _⟩ := h; rfl) | (obtain ⟨_, _, _, _, _, _, _, _, _, _, _, _, _, _, _, _, _, _, _, _, _, _, _, _, _, _, _, _, _, _, _, rfl, _⟩ := h; rfl)) (fun cdv A' outer s H vs Q E hr h => ⟨t_Work_read_source K A (fun cls d _ H => E cls d H), ?_, rd_Work_read_source T.xc h⟩)
  unfold t_Work_read_source
  exact (pss_cons (ps_asg (pe_fld (pn 0) rfl) (pg_tup rfl (p_gcons (pg_name (i := 1) sc_Work_read_source.nd rfl (Or.inl rfl)) (p_gcons (pg_name (i := 2) sc_Work_read_source.nd rfl (Or.inl rfl)) (p_gcons (pg_name (i := 3) sc_Work_read_source.nd rfl (Or.inl rfl)) (p_gcons (pg_name (i := 4) sc_Work_read_source.nd rfl (Or.inl rfl)) (p_gcons (pg_name (i := 5) sc_Work_read_source.nd rfl (Or.inl rfl)) p_gnil)))))))
  (pss_cons (ps_set (i := 6) sc_Work_read_source.nd rfl (Or.inl rfl) (pe_call (ok_read_slot T) (hr.mono (by decide)) (by rfl) T.m_read_slot T.F_read_slot.kp T.b_read_slot .nil pass0 (pa_cons (pe_fld (pn 0) rfl) (pa_cons pe_int (pa_cons (pn 1) (pa_cons (pn 2) (pa_cons (pn 3) (pa_cons (pn 4) (pa_cons (pn 5) pa_nil)))))))))
  (pss_cons (ps_fld (pn 0) (p_ifE (m_test (pt_cmpR (o_eq hr.units) (pe_fld (pn 0) rfl) pe_str (nomark _))) (pe_op o_add (pn 6) (pe_fld (pn 0) rfl)) (pn 6)) rfl)
  (pss_one (p_if (m_test (pt_cmpR (o_in (u65 hr)) (pe_fld (pn 0) rfl) (pe_tup (pa_cons pe_str (pa_cons pe_str pa_nil))) rfl))
    (pss_cons (ps_asg (pe_call (ok_bounds T) (hr.mono (by decide)) (by rfl) T.m_bounds T.F_bounds.kp T.b_bounds .nil pass0 (pa_cons (pe_ix ix_seq (pe_meth0 (pn 0) T.cl_Work T.M_Work_written (ok_Work_written T) (hr.mono (by decide)) T.b_Work_written .nil pass0) pe_int (fun _ _ => rfl)) (pa_cons (pe_ix ix_seq (pe_meth0 (pn 0) T.cl_Work T.M_Work_written (ok_Work_written T) (hr.mono (by decide)) T.b_Work_written .nil pass0) pe_int (fun _ _ => rfl)) pa_nil))) (pg_tup rfl (p_gcons (pg_name (i := 7) sc_Work_read_source.nd rfl (Or.inl rfl)) (p_gcons (pg_name (i := 8) sc_Work_read_source.nd rfl (Or.inl rfl)) p_gnil))))
  (pss_one (p_if (PW.pt (pw_or (m_test (pt_cmpR o_lt (pe_fld (pn 0) rfl) (pn 7) (nomark _))) (pw_or1 (m_test (pt_cmpR o_gt (pe_fld (pn 0) rfl) (pn 8) (nomark _))))))
    (pss_one (p_raise0 rfl (takes_of rfl rfl rfl rfl) PySem.F.excBase_ValueError T.x_OutOfRange T.m_OutOfRange T.k_OutOfRange T.bb_OutOfRange T.tt_OutOfRange (by rfl)))
    pss_nil)))
    pss_nil)))))
theorem ok_Work_make_new (T : Top K mg A W) : FnOk P w K mg base (L2.CX P w) 4 W.a_Work_make_new W.d_Work_make_new ["self"] (sp_Work_make_new K A) := by
  refine T.F_Work_make_new.okX sc_Work_make_new (fun vs H Q E h => by first | (obtain ⟨rfl, _⟩ := h; rfl) | (obtain ⟨_, rfl, _⟩ := h; rfl) | (obtain ⟨_, _, rfl, _⟩ := h; rfl) | (obtain ⟨_, _, _, rfl, _⟩ := h; rfl) | (obtain ⟨_, _, _, _, rfl, _⟩ := h; rfl) | (obtain ⟨_, _, _, _, _, rfl, _⟩ := h; rfl) | (obtain ⟨_, _, _, _, _, _, rfl, _⟩ := h; rfl) | (obtain ⟨_, _, _, _, _, _, _, rfl, _⟩ := h; rfl) | (obtain ⟨_, _, _, _, _, _, _, _, rfl, _⟩ := h; rfl) | (obtain ⟨_, _, _, _, _, _, _, _, _, rfl, _⟩ := h; rfl) | (obtain ⟨_, _, _, _, _, _, _, _, _, _, rfl, _⟩ := h; rfl) | (obtain ⟨_, _, _, _, _, _, _, _, _, _, _, rfl, _⟩ := h; rfl) | (obtain ⟨_, _, _, _, _, _, _, _, _, _, _, _, rfl, _⟩ := h; rfl) | (obtain ⟨_, _, _, _, _, _, _, _, _, _, _, _, _, rfl, _⟩ := h; rfl) | (obtain ⟨_, _, _, _, _, _, _, _, _, _, _, _, _, _, rfl, _⟩ := h; rfl) | (obtain ⟨_, _, _, _, _, _, _, _, _, _, _, _, _, _, _, rfl, _⟩ := h; rfl) | (obtain ⟨_, _, _, _, _, _, _, _, _, _, _, _, _, _, _, _, rfl, _⟩ := h; rfl) | (obtain ⟨_, _, _, _, _, _, _, _, _, _, _, _, _, _, _, _, _, rfl, _⟩ := h; rfl) | (obtain ⟨_, _, _, _, _, _, _, _, _, _, _, _, _, _, _, _, _, _, rfl, _⟩ := h; rfl) | (obtain ⟨_, _, _, _, _, _, _, _, _, _, _, _, _, _, _, _, _, _, _, rfl, _⟩ := h; rfl) | (obtain ⟨_, _, _, _, _, _, _, _, _, _, _, _, _, _, _, _, _, _, _, _, rfl, _⟩ := h; rfl) | (obtain ⟨_, _, _, _, _, _, _, _, _, _, _, _, _, _, _, _, _, _, _, _, _, rfl, _⟩ := h; rfl) | (obtain ⟨_, _, _, _, _, _, _, _, _, _, _, _, _, _, _, _, _, _, _, _, _, _, rfl, _⟩ := h; rfl) | (obtain ⟨_, _, _, _, _, _, _, _, _, _, _, _, _, _, _, _, _, _, _, _, _, _, _, rfl, _⟩ := h; rfl) | (obtain ⟨_, _, _, _, _, _, _, _, _, _, _, _, _, _, _, _, _, _, _, _, _, _, _, _, rfl, _⟩ := h; rfl) | (obtain ⟨_, _, _, _, _, _, _, _, _, _, _, _, _, _, _, _, _, _, _, _, _, _, _, _, _, rfl, _⟩ := h; rfl) | (obtain ⟨_, _, _, _, _, _, _, _, _, _, _, _, _, _, _, _, _, _, _, _, _, _, _, _, _, _, rfl, _⟩ := h; rfl) | (obtain ⟨_, _, _, _, _, _, _, _, _, _, _, _, _, _, _, _, _, _, _, _, _, _, _, _, _, _, _, rfl, _⟩ := h; rfl) | (obtain ⟨_, _, _, _, _, _, _, _, _, _, _, _, _, _, _, _, _, _, _, _, _, _, _, _, _, _, _, _, rfl, _⟩ := h; rfl) | (obtain ⟨_, _, _, _, _, _, _, _, _, _, _, _, _, _, _, _, _, _, _, _, _, _, _, _, _, _, _, _, _, rfl, _⟩ := h; rfl) | (obtain ⟨_, _, _, _, _, _, _, _, _, _, _, _, _, _, _, _, _, _, _, _, _, _, _, _, _, _, _, _, _, _, rfl, _⟩ := h; rfl) | (obtain ⟨_, _, _, _, _, _, _, _, _, _, _, _, _, _, _, _, _, _, _, _, _, _, _, _, _, _, _, _, _, _, _, rfl, _⟩ := h; rfl)) (fun cdv A' outer s H vs Q E hr h => ⟨t_Work_make_new K A (fun cls d _ H => E cls d H), ?_, rd_Work_make_new T.xc h⟩)
  unfold t_Work_make_new
  exact (pss_cons (ps_asg (pe_meth0 (pn 0) T.cl_Work T.M_Work_written (ok_Work_written T) (hr.mono (by decide)) T.b_Work_written .nil pass0) (pg_tup rfl (p_gcons (pg_name (i := 1) sc_Work_make_new.nd rfl (Or.inl rfl)) (p_gcons (pg_name (i := 2) sc_Work_make_new.nd rfl (Or.inl rfl)) (p_gcons (pg_name (i := 3) sc_Work_make_new.nd rfl (Or.inl rfl)) (p_gcons (pg_name (i := 4) sc_Work_make_new.nd rfl (Or.inl rfl)) (p_gcons (pg_name (i := 5) sc_Work_make_new.nd rfl (Or.inl rfl)) p_gnil)))))))
  (pss_cons (ps_set (i := 6) sc_Work_make_new.nd rfl (Or.inl rfl) (p_ifE (m_test (pt_cmpR o_isN (pe_fld (pn 0) rfl) pe_non (nomark _))) (pe_fld (pn 0) rfl) (pe_fld (pn 0) rfl)))
  (pss_cons (ps_fld (pn 0) (p_ifE (p_truth (pn 6) (by intro _; rfl)) (pe_callTy c_list (by rfl) T.n_list (by decide +kernel) (pa_cons (pn 6) pa_nil)) (pe_op o_mul (pe_lst (pa_cons pe_int pa_nil)) (pn 1))) rfl)
  (pss_cons (ps_set (i := 7) sc_Work_make_new.nd rfl (Or.inl rfl) (p_ifE (m_test (pt_cmpR (o_in (u65 hr)) (pe_fld (pn 0) rfl) (pe_tup (pa_cons pe_str (pa_cons pe_str pa_nil))) rfl)) (pe_fld (pn 0) rfl) (pe_fld (pn 0) rfl)))
  (pss_one (ps_expr (pe_callS (ok_write_slot T) (hr.mono (by decide)) (by rfl) T.m_write_slot T.F_write_slot.kp T.b_write_slot (fun σ => passAt (takes_of rfl rfl rfl rfl) σ) (pa_cons (pe_fld (pn 0) rfl) (pa_cons pe_int (pa_cons (pn 1) (pa_cons (pn 2) (pa_cons (pn 3) (pa_cons (pn 4) (pa_cons (pn 5) (pa_cons (pn 7) pa_nil)))))))))))))))
theorem ok_Work_target_place (T : Top K mg A W) : FnOk P w K mg base CX0 1 W.a_Work_target_place W.d_Work_target_place ["self", "source_offset", "target_offset"] (sp_Work_target_place K A) := by
  refine T.F_Work_target_place.ok sc_Work_target_place (fun vs H Q E h => by first | (obtain ⟨rfl, _⟩ := h; rfl) | (obtain ⟨_, rfl, _⟩ := h; rfl) | (obtain ⟨_, _, rfl, _⟩ := h; rfl) | (obtain ⟨_, _, _, rfl, _⟩ := h; rfl) | (obtain ⟨_, _, _, _, rfl, _⟩ := h; rfl) | (obtain ⟨_, _, _, _, _, rfl, _⟩ := h; rfl) | (obtain ⟨_, _, _, _, _, _, rfl, _⟩ := h; rfl) | (obtain ⟨_, _, _, _, _, _, _, rfl, _⟩ := h; rfl) | (obtain ⟨_, _, _, _, _, _, _, _, rfl, _⟩ := h; rfl) | (obtain ⟨_, _, _, _, _, _, _, _, _, rfl, _⟩ := h; rfl) | (obtain ⟨_, _, _, _, _, _, _, _, _, _, rfl, _⟩ := h; rfl) | (obtain ⟨_, _, _, _, _, _, _, _, _, _, _, rfl, _⟩ := h; rfl) | (obtain ⟨_, _, _, _, _, _, _, _, _, _, _, _, rfl, _⟩ := h; rfl) | (obtain ⟨_, _, _, _, _, _, _, _, _, _, _, _, _, rfl, _⟩ := h; rfl) | (obtain ⟨_, _, _, _, _, _, _, _, _, _, _, _, _, _, rfl, _⟩ := h; rfl) | (obtain ⟨_, _, _, _, _, _, _, _, _, _, _, _, _, _, _, rfl, _⟩ := h; rfl) | (obtain ⟨_, _, _, _, _, _, _, _, _, _, _, _, _, _, _, _, rfl, _⟩ := h; rfl) | (obtain ⟨_, _, _, _, _, _, _, _, _, _, _, _, _, _, _, _, _, rfl, _⟩ := h; rfl) | (obtain ⟨_, _, _, _, _, _, _, _, _, _, _, _, _, _, _, _, _, _, rfl, _⟩ := h; rfl) | (obtain ⟨_, _, _, _, _, _, _, _, _, _, _, _, _, _, _, _, _, _, _, rfl, _⟩ := h; rfl) | (obtain ⟨_, _, _, _, _, _, _, _, _, _, _, _, _, _, _, _, _, _, _, _, rfl, _⟩ := h; rfl) | (obtain ⟨_, _, _, _, _, _, _, _, _, _, _, _, _, _, _, _, _, _, _, _, _, rfl, _⟩ := h; rfl) | (obtain ⟨_, _, _, _, _, _, _, _, _, _, _, _, _, _, _, _, _, _, _, _, _, _, rfl, _⟩ := h; rfl) | (obtain ⟨_, _, _, _, _, _, _, _, _, _, _, _, _, _, _, _, _, _, _, _, _, _, _, rfl, _⟩ := h; rfl) | (obtain ⟨_, _, _, _, _, _, _, _, _, _, _, _, _, _, _, _, _, _, _, _, _, _, _, _, rfl, _⟩ := h; rfl) | (obtain ⟨_, _, _, _, _, _, _, _, _, _, _, _, _, _, _, _, _, _, _, _, _, _, _, _, _, rfl, _⟩ := h; rfl) | (obtain ⟨_, _, _, _, _, _, _, _, _, _, _, _, _, _, _, _, _, _, _, _, _, _, _, _, _, _, rfl, _⟩ := h; rfl) | (obtain ⟨_, _, _, _, _, _, _, _, _, _, _, _, _, _, _, _, _, _, _, _, _, _, _, _, _, _, _, rfl, _⟩ := h; rfl) | (obtain ⟨_, _, _, _, _, _, _, _, _, _, _, _, _, _, _, _, _, _, _, _, _, _, _, _, _, _, _, _, rfl, _⟩ := h; rfl) | (obtain ⟨_, _, _, _, _, _, _, _, _, _, _, _, _, _, _, _, _, _, _, _, _, _, _, _, _, _, _, _, _, rfl, _⟩ := h; rfl) | (obtain ⟨_, _, _, _, _, _, _, _, _, _, _, _, _, _, _, _, _, _, _, _, _, _, _, _, _, _, _, _, _, _, rfl, _⟩ := h; rfl) | (obtain ⟨_, _, _, _, _, _, _, _, _, _, _, _, _, _, _, _, _, _, _, _, _, _, _, _, _, _, _, _, _, _, _, rfl, _⟩ := h; rfl)) (fun cdv A' outer s H vs Q E hr h => ⟨t_Work_target_place K A, ?_, rd_Work_target_place T.xc h⟩)
  unfold t_Work_target_place
  exact (pss_one (ps_ret (p_ifE (m_test (pt_cmpR o_isN (pe_fld (pn 0) rfl) pe_non (nomark _))) (pn 1) (pn 2))))
theorem ok_Work_write (T : Top K mg A W) : FnOk P w K mg base (L2.CX P w) 5 W.a_Work_write W.d_Work_write ["self", "data", "offset", "index"] (sp_Work_write K A) := by
  refine T.F_Work_write.okX sc_Work_write (fun vs H Q E h => by first | (obtain ⟨rfl, _⟩ := h; rfl) | (obtain ⟨_, rfl, _⟩ := h; rfl) | (obtain ⟨_, _, rfl, _⟩ := h; rfl) | (obtain ⟨_, _, _, rfl, _⟩ := h; rfl) | (obtain ⟨_, _, _, _, rfl, _⟩ := h; rfl) | (obtain ⟨_, _, _, _, _, rfl, _⟩ := h; rfl) | (obtain ⟨_, _, _, _, _, _, rfl, _⟩ := h; rfl) | (obtain ⟨_, _, _, _, _, _, _, rfl, _⟩ := h; rfl) | (obtain ⟨_, _, _, _, _, _, _, _, rfl, _⟩ := h; rfl) | (obtain ⟨_, _, _, _, _, _, _, _, _, rfl, _⟩ := h; rfl) | (obtain ⟨_, _, _, _, _, _, _, _, _, _, rfl, _⟩ := h; rfl) | (obtain ⟨_, _, _, _, _, _, _, _, _, _, _, rfl, _⟩ := h; rfl) | (obtain ⟨_, _, _, _, _, _, _, _, _, _, _, _, rfl, _⟩ := h; rfl) | (obtain ⟨_, _, _, _, _, _, _, _, _, _, _, _, _, rfl, _⟩ := h; rfl) | (obtain ⟨_, _, _, _, _, _, _, _, _, _, _, _, _, _, rfl, _⟩ := h; rfl) | (obtain ⟨_, _, _, _, _, _, _, _, _, _, _, _, _, _, _, rfl, _⟩ := h; rfl) | (obtain ⟨_, _, _, _, _, _, _, _, _, _, _, _, _, _, _, _, rfl, _⟩ := h; rfl) | (obtain ⟨_, _, _, _, _, _, _, _, _, _, _, _, _, _, _, _, _, rfl, _⟩ := h; rfl) | (obtain ⟨_, _, _, _, _, _, _, _, _, _, _, _, _, _, _, _, _, _, rfl, _⟩ := h; rfl) | (obtain ⟨_, _, _, _, _, _, _, _, _, _, _, _, _, _, _, _, _, _, _, rfl, _⟩ := h; rfl) | (obtain ⟨_, _, _, _, _, _, _, _, _, _, _, _, _, _, _, _, _, _, _, _, rfl, _⟩ := h; rfl) | (obtain ⟨_, _, _, _, _, _, _, _, _, _, _, _, _, _, _, _, _, _, _, _, _, rfl, _⟩ := h; rfl) | (obtain ⟨_, _, _, _, _, _, _, _, _, _, _, _, _, _, _, _, _, _, _, _, _, _, rfl, _⟩ := h; rfl) | (obtain ⟨_, _, _, _, _, _, _, _, _, _, _, _, _, _, _, _, _, _, _, _, _, _, _, rfl, _⟩ := h; rfl) | (obtain ⟨_, _, _, _, _, _, _, _, _, _, _, _, _, _, _, _, _, _, _, _, _, _, _, _, rfl, _⟩ := h; rfl) | (obtain ⟨_, _, _, _, _, _, _, _, _, _, _, _, _, _, _, _, _, _, _, _, _, _, _, _, _, rfl, _⟩ := h; rfl) | (obtain ⟨_, _, _, _, _, _, _, _, _, _, _, _, _, _, _, _, _, _, _, _, _, _, _, _, _, _, rfl, _⟩ := h; rfl) | (obtain ⟨_, _, _, _, _, _, _, _, _, _, _, _, _, _, _, _, _, _, _, _, _, _, _, _, _, _, _, rfl, _⟩ := h; rfl) | (obtain ⟨_, _, _, _, _, _, _, _, _, _, _, _, _, _, _, _, _, _, _, _, _, _, _, _, _, _, _, _, rfl, _⟩ := h; rfl) | (obtain ⟨_, _, _, _, _, _, _, _, _, _, _, _, _, _, _, _, _, _, _, _, _, _, _, _, _, _, _, _, _, rfl, _⟩ := h; rfl) | (obtain ⟨_, _, _, _, _, _, _, _, _, _, _, _, _, _, _, _, _, _, _, _, _, _, _, _, _, _, _, _, _, _, rfl, _⟩ := h; rfl) | (obtain ⟨_, _, _, _, _, _, _, _, _, _, _, _, _, _, _, _, _, _, _, _, _, _, _, _, _, _, _, _, _, _, _, rfl, _⟩ := h; rfl)) (fun cdv A' outer s H vs Q E hr h => ⟨t_Work_write K A (fun cls d _ H => E cls d H), ?_, rd_Work_write T.xc h⟩)
  unfold t_Work_write
  exact (p_cut (p_if (m_test (pt_cmpR (o_eq hr.units) (pn 3) pe_int (nomark _)))
    (pss_one (ps_expr (pe_methE0 (pn 0) T.cl_Work T.M_Work_make_new (ok_Work_make_new T) (hr.mono (by decide)) T.b_Work_make_new (fun σ => passAt (takes_of rfl rfl rfl rfl) σ))))
    pss_nil)
  (pss_one (ps_asg (pe_ix ix_seq (pe_fld (pn 0) rfl) (pn 3) (fun _ _ => rfl)) (pg_sub (pn 1) (pe_op o_add (pn 2) (pn 3)) set_list))))
theorem ok_Work_step (T : Top K mg A W) : FnOk P w K mg base (L2.CX P w) 6 W.a_Work_step W.d_Work_step ["self", "data", "source_offset", "target_offset"] (sp_Work_step K A) := by
  refine T.F_Work_step.okX sc_Work_step (fun vs H Q E h => by first | (obtain ⟨rfl, _⟩ := h; rfl) | (obtain ⟨_, rfl, _⟩ := h; rfl) | (obtain ⟨_, _, rfl, _⟩ := h; rfl) | (obtain ⟨_, _, _, rfl, _⟩ := h; rfl) | (obtain ⟨_, _, _, _, rfl, _⟩ := h; rfl) | (obtain ⟨_, _, _, _, _, rfl, _⟩ := h; rfl) | (obtain ⟨_, _, _, _, _, _, rfl, _⟩ := h; rfl) | (obtain ⟨_, _, _, _, _, _, _, rfl, _⟩ := h; rfl) | (obtain ⟨_, _, _, _, _, _, _, _, rfl, _⟩ := h; rfl) | (obtain ⟨_, _, _, _, _, _, _, _, _, rfl, _⟩ := h; rfl) | (obtain ⟨_, _, _, _, _, _, _, _, _, _, rfl, _⟩ := h; rfl) | (obtain ⟨_, _, _, _, _, _, _, _, _, _, _, rfl, _⟩ := h; rfl) | (obtain ⟨_, _, _, _, _, _, _, _, _, _, _, _, rfl, _⟩ := h; rfl) | (obtain ⟨_, _, _, _, _, _, _, _, _, _, _, _, _, rfl, _⟩ := h; rfl) | (obtain ⟨_, _, _, _, _, _, _, _, _, _, _, _, _, _, rfl, _⟩ := h; rfl) | (obtain ⟨_, _, _, _, _, _, _, _, _, _, _, _, _, _, _, rfl, _⟩ := h; rfl) | (obtain ⟨_, _, _, _, _, _, _, _, _, _, _, _, _, _, _, _, rfl, _⟩ := h; rfl) | (obtain ⟨_, _, _, _, _, _, _, _, _, _, _, _, _, _, _, _, _, rfl, _⟩ := h; rfl) | (obtain ⟨_, _, _, _, _, _, _, _, _, _, _, _, _, _, _, _, _, _, rfl, _⟩ := h; rfl) | (obtain ⟨_, _, _, _, _, _, _, _, _, _, _, _, _, _, _, _, _, _, _, rfl, _⟩ := h; rfl) | (obtain ⟨_, _, _, _, _, _, _, _, _, _, _, _, _, _, _, _, _, _, _, _, rfl, _⟩ := h; rfl) | (obtain ⟨_, _, _, _, _, _, _, _, _, _, _, _, _, _, _, _, _, _, _, _, _, rfl, _⟩ := h; rfl) | (obtain ⟨_, _, _, _, _, _, _, _, _, _, _, _, _, _, _, _, _, _, _, _, _, _, rfl, _⟩ := h; rfl) | (obtain ⟨_, _, _, _, _, _, _, _, _, _, _, _, _, _, _, _, _, _, _, _, _, _, _, rfl, _⟩ := h; rfl) | (obtain ⟨_, _, _, _, _, _, _, _, _, _, _, _, _, _, _, _, _, _, _, _, _, _, _, _, rfl, _⟩ := h; rfl) | (obtain ⟨_, _, _, _, _, _, _, _, _, _, _, _, _, _, _, _, _, _, _, _, _, _, _, _, _, rfl, _⟩ := h; rfl) | (obtain ⟨_, _, _, _, _, _, _, _, _, _, _, _, _, _, _, _, _, _, _, _, _, _, _, _, _, _, rfl, _⟩ := h; rfl) | (obtain ⟨_, _, _, _, _, _, _, _, _, _, _, _, _, _, _, _, _, _, _, _, _, _, _, _, _, _, _, rfl, _⟩ := h; rfl) | (obtain ⟨_, _, _, _, _, _, _, _, _, _, _, _, _, _, _, _, _, _, _, _, _, _, _, _, _, _, _, _, rfl, _⟩ := h; rfl) | (obtain ⟨_, _, _, _, _, _, _, _, _, _, _, _, _, _, _, _, _, _, _, _, _, _, _, _, _, _, _, _, _, rfl, _⟩ := h; rfl) | (obtain ⟨_, _, _, _, _, _, _, _, _, _, _, _, _, _, _, _, _, _, _, _, _, _, _, _, _, _, _, _, _, _, rfl, _⟩ := h; rfl) | (obtain ⟨_, _, _, _, _, _, _, _, _, _, _, _, _, _, _, _, _, _, _, _, _, _, _, _, _, _, _, _, _, _, _, rfl, _⟩ := h; rfl)) (fun cdv A' outer s H vs Q E hr h => ⟨t_Work_step K A (fun cls d _ H => E cls d H), ?_, rd_Work_step T.xc h⟩)
  unfold t_Work_step
  exact (pss_cons (ps_set (i := 4) sc_Work_step.nd rfl (Or.inl rfl) (pe_fld (pn 0) rfl))
  (pss_cons (ps_fldaug (pn 0) pe_int in_addM)
  (p_cut (p_if (m_test (pt_cmpR o_lt (pn 4) (pe_meth0 (pn 0) T.cl_Work T.M_Work_source_reads (ok_Work_source_reads T) (hr.mono (by decide)) T.b_Work_source_reads .nil pass0) (nomark _)))
    (pss_cons (ps_expr (pe_bm PySem.F.plainAttrs_list PySem.F.slot_list_append PySem.F.type_list_append mt_append (pe_fld (pn 0) rfl) (pa_cons (pe_ix ix_seq (pn 1) (pe_op o_add (pn 2) (pn 4)) (fun _ _ => rfl)) pa_nil)))
  (pss_one (p_if (m_test (pt_cmpR (o_eq hr.units) (pe_op o_add (pn 4) pe_int) (pe_meth0 (pn 0) T.cl_Work T.M_Work_source_reads (ok_Work_source_reads T) (hr.mono (by decide)) T.b_Work_source_reads .nil pass0) (nomark _)))
    (pss_one (ps_expr (pe_methE0 (pn 0) T.cl_Work T.M_Work_read_source (ok_Work_read_source T) (hr.mono (by decide)) T.b_Work_read_source (fun σ => passAt (takes_of rfl rfl rfl rfl) σ))))
    pss_nil)))
    (pss_one (p_if (m_test (pt_cmpR o_lt (pn 4) (pe_meth0 (pn 0) T.cl_Work T.M_Work_reads (ok_Work_reads T) (hr.mono (by decide)) T.b_Work_reads .nil pass0) (nomark _)))
    (pss_one (ps_expr (pe_bm PySem.F.plainAttrs_list PySem.F.slot_list_append PySem.F.type_list_append mt_append (pe_fld (pn 0) rfl) (pa_cons (pe_ix ix_seq (pn 1) (pe_op o_sub (pe_op o_add (pn 3) (pn 4)) (pe_meth0 (pn 0) T.cl_Work T.M_Work_source_reads (ok_Work_source_reads T) (hr.mono (by decide)) T.b_Work_source_reads .nil pass0)) (fun _ _ => rfl)) pa_nil))))
    (pss_one (ps_expr (pe_methE (pn 0) T.cl_Work T.M_Work_write (ok_Work_write T) (hr.mono (by decide)) T.b_Work_write (fun σ => passAt (takes_of rfl rfl rfl rfl) σ) (pa_cons (pn 1) (pa_cons (pe_meth (pn 0) T.cl_Work T.M_Work_target_place (ok_Work_target_place T) (hr.mono (by decide)) T.b_Work_target_place .nil pass0 (pa_cons (pn 2) (pa_cons (pn 3) pa_nil))) (pa_cons (pe_op o_sub (pn 4) (pe_meth0 (pn 0) T.cl_Work T.M_Work_reads (ok_Work_reads T) (hr.mono (by decide)) T.b_Work_reads .nil pass0)) pa_nil)))))))))
  (pss_cons (p_if (m_test (pt_cmpR o_lt (pe_fld (pn 0) rfl) (pe_meth0 (pn 0) T.cl_Work T.M_Work_total (ok_Work_total T) (hr.mono (by decide)) T.b_Work_total .nil pass0) (nomark _)))
    (pss_one (ps_ret (pe_tup (pa_cons pe_str pa_nil))))
    pss_nil)
  (pss_one (ps_ret (pe_tup (pa_cons pe_str (pa_cons (p_ifE (m_test (pt_cmpR (o_eq hr.units) (pe_fld (pn 0) rfl) pe_str (nomark _))) pe_non (pe_fld (pn 0) rfl)) pa_nil)))))))))
theorem ok__law_cell (T : Top K mg A W) : FnOk P w K mg base CX0 1 W.a__law_cell W.d__law_cell ["_law_script", "_law_k"] (sp__law_cell K A) := by
  refine T.F__law_cell.ok sc__law_cell (fun vs H Q E h => by first | (obtain ⟨rfl, _⟩ := h; rfl) | (obtain ⟨_, rfl, _⟩ := h; rfl) | (obtain ⟨_, _, rfl, _⟩ := h; rfl) | (obtain ⟨_, _, _, rfl, _⟩ := h; rfl) | (obtain ⟨_, _, _, _, rfl, _⟩ := h; rfl) | (obtain ⟨_, _, _, _, _, rfl, _⟩ := h; rfl) | (obtain ⟨_, _, _, _, _, _, rfl, _⟩ := h; rfl) | (obtain ⟨_, _, _, _, _, _, _, rfl, _⟩ := h; rfl) | (obtain ⟨_, _, _, _, _, _, _, _, rfl, _⟩ := h; rfl) | (obtain ⟨_, _, _, _, _, _, _, _, _, rfl, _⟩ := h; rfl) | (obtain ⟨_, _, _, _, _, _, _, _, _, _, rfl, _⟩ := h; rfl) | (obtain ⟨_, _, _, _, _, _, _, _, _, _, _, rfl, _⟩ := h; rfl) | (obtain ⟨_, _, _, _, _, _, _, _, _, _, _, _, rfl, _⟩ := h; rfl) | (obtain ⟨_, _, _, _, _, _, _, _, _, _, _, _, _, rfl, _⟩ := h; rfl) | (obtain ⟨_, _, _, _, _, _, _, _, _, _, _, _, _, _, rfl, _⟩ := h; rfl) | (obtain ⟨_, _, _, _, _, _, _, _, _, _, _, _, _, _, _, rfl, _⟩ := h; rfl) | (obtain ⟨_, _, _, _, _, _, _, _, _, _, _, _, _, _, _, _, rfl, _⟩ := h; rfl) | (obtain ⟨_, _, _, _, _, _, _, _, _, _, _, _, _, _, _, _, _, rfl, _⟩ := h; rfl) | (obtain ⟨_, _, _, _, _, _, _, _, _, _, _, _, _, _, _, _, _, _, rfl, _⟩ := h; rfl) | (obtain ⟨_, _, _, _, _, _, _, _, _, _, _, _, _, _, _, _, _, _, _, rfl, _⟩ := h; rfl) | (obtain ⟨_, _, _, _, _, _, _, _, _, _, _, _, _, _, _, _, _, _, _, _, rfl, _⟩ := h; rfl) | (obtain ⟨_, _, _, _, _, _, _, _, _, _, _, _, _, _, _, _, _, _, _, _, _, rfl, _⟩ := h; rfl) | (obtain ⟨_, _, _, _, _, _, _, _, _, _, _, _, _, _, _, _, _, _, _, _, _, _, rfl, _⟩ := h; rfl) | (obtain ⟨_, _, _, _, _, _, _, _, _, _, _, _, _, _, _, _, _, _, _, _, _, _, _, rfl, _⟩ := h; rfl) | (obtain ⟨_, _, _, _, _, _, _, _, _, _, _, _, _, _, _, _, _, _, _, _, _, _, _, _, rfl, _⟩ := h; rfl) | (obtain ⟨_, _, _, _, _, _, _, _, _, _, _, _, _, _, _, _, _, _, _, _, _, _, _, _, _, rfl, _⟩ := h; rfl) | (obtain ⟨_, _, _, _, _, _, _, _, _, _, _, _, _, _, _, _, _, _, _, _, _, _, _, _, _, _, rfl, _⟩ := h; rfl) | (obtain ⟨_, _, _, _, _, _, _, _, _, _, _, _, _, _, _, _, _, _, _, _, _, _, _, _, _, _, _, rfl, _⟩ := h; rfl) | (obtain ⟨_, _, _, _, _, _, _, _, _, _, _, _, _, _, _, _, _, _, _, _, _, _, _, _, _, _, _, _, rfl, _⟩ := h; rfl) | (obtain ⟨_, _, _, _, _, _, _, _, _, _, _, _, _, _, _, _, _, _, _, _, _, _, _, _, _, _, _, _, _, rfl, _⟩ := h; rfl) | (obtain ⟨_, _, _, _, _, _, _, _, _, _, _, _, _, _, _, _, _, _, _, _, _, _, _, _, _, _, _, _, _, _, rfl, _⟩ := h; rfl) | (obtain ⟨_, _, _, _, _, _, _, _, _, _, _, _, _, _, _, _, _, _, _, _, _, _, _, _, _, _, _, _, _, _, _, rfl, _⟩ := h; rfl)) (fun cdv A' outer s H vs Q E hr h => ⟨t__law_cell K A, ?_, rd__law_cell h⟩)
  unfold t__law_cell
  exact (pss_cons (p_if (m_test (pt_cmpR o_lt (pn 1) (pe_callB c_len (by rfl) T.n_len (by decide +kernel) (pa_cons (pn 0) pa_nil)) (nomark _)))
    (pss_one (ps_ret (pe_ix ix_seq (pn 0) (pn 1) (fun _ _ => rfl))))
    pss_nil)
  (pss_one (ps_ret pe_int)))
theorem ok__law_digits (T : Top K mg A W) : FnOk P w K mg base CX0 2 W.a__law_digits W.d__law_digits ["_law_script", "_law_first", "_law_last"] (sp__law_digits K A) := by
  refine T.F__law_digits.ok sc__law_digits (fun vs H Q E h => by first | (obtain ⟨rfl, _⟩ := h; rfl) | (obtain ⟨_, rfl, _⟩ := h; rfl) | (obtain ⟨_, _, rfl, _⟩ := h; rfl) | (obtain ⟨_, _, _, rfl, _⟩ := h; rfl) | (obtain ⟨_, _, _, _, rfl, _⟩ := h; rfl) | (obtain ⟨_, _, _, _, _, rfl, _⟩ := h; rfl) | (obtain ⟨_, _, _, _, _, _, rfl, _⟩ := h; rfl) | (obtain ⟨_, _, _, _, _, _, _, rfl, _⟩ := h; rfl) | (obtain ⟨_, _, _, _, _, _, _, _, rfl, _⟩ := h; rfl) | (obtain ⟨_, _, _, _, _, _, _, _, _, rfl, _⟩ := h; rfl) | (obtain ⟨_, _, _, _, _, _, _, _, _, _, rfl, _⟩ := h; rfl) | (obtain ⟨_, _, _, _, _, _, _, _, _, _, _, rfl, _⟩ := h; rfl) | (obtain ⟨_, _, _, _, _, _, _, _, _, _, _, _, rfl, _⟩ := h; rfl) | (obtain ⟨_, _, _, _, _, _, _, _, _, _, _, _, _, rfl, _⟩ := h; rfl) | (obtain ⟨_, _, _, _, _, _, _, _, _, _, _, _, _, _, rfl, _⟩ := h; rfl) | (obtain ⟨_, _, _, _, _, _, _, _, _, _, _, _, _, _, _, rfl, _⟩ := h; rfl) | (obtain ⟨_, _, _, _, _, _, _, _, _, _, _, _, _, _, _, _, rfl, _⟩ := h; rfl) | (obtain ⟨_, _, _, _, _, _, _, _, _, _, _, _, _, _, _, _, _, rfl, _⟩ := h; rfl) | (obtain ⟨_, _, _, _, _, _, _, _, _, _, _, _, _, _, _, _, _, _, rfl, _⟩ := h; rfl) | (obtain ⟨_, _, _, _, _, _, _, _, _, _, _, _, _, _, _, _, _, _, _, rfl, _⟩ := h; rfl) | (obtain ⟨_, _, _, _, _, _, _, _, _, _, _, _, _, _, _, _, _, _, _, _, rfl, _⟩ := h; rfl) | (obtain ⟨_, _, _, _, _, _, _, _, _, _, _, _, _, _, _, _, _, _, _, _, _, rfl, _⟩ := h; rfl) | (obtain ⟨_, _, _, _, _, _, _, _, _, _, _, _, _, _, _, _, _, _, _, _, _, _, rfl, _⟩ := h; rfl) | (obtain ⟨_, _, _, _, _, _, _, _, _, _, _, _, _, _, _, _, _, _, _, _, _, _, _, rfl, _⟩ := h; rfl) | (obtain ⟨_, _, _, _, _, _, _, _, _, _, _, _, _, _, _, _, _, _, _, _, _, _, _, _, rfl, _⟩ := h; rfl) | (obtain ⟨_, _, _, _, _, _, _, _, _, _, _, _, _, _, _, _, _, _, _, _, _, _, _, _, _, rfl, _⟩ := h; rfl) | (obtain ⟨_, _, _, _, _, _, _, _, _, _, _, _, _, _, _, _, _, _, _, _, _, _, _, _, _, _, rfl, _⟩ := h; rfl) | (obtain ⟨_, _, _, _, _, _, _, _, _, _, _, _, _, _, _, _, _, _, _, _, _, _, _, _, _, _, _, rfl, _⟩ := h; rfl) | (obtain ⟨_, _, _, _, _, _, _, _, _, _, _, _, _, _, _, _, _, _, _, _, _, _, _, _, _, _, _, _, rfl, _⟩ := h; rfl) | (obtain ⟨_, _, _, _, _, _, _, _, _, _, _, _, _, _, _, _, _, _, _, _, _, _, _, _, _, _, _, _, _, rfl, _⟩ := h; rfl) | (obtain ⟨_, _, _, _, _, _, _, _, _, _, _, _, _, _, _, _, _, _, _, _, _, _, _, _, _, _, _, _, _, _, rfl, _⟩ := h; rfl) | (obtain ⟨_, _, _, _, _, _, _, _, _, _, _, _, _, _, _, _, _, _, _, _, _, _, _, _, _, _, _, _, _, _, _, rfl, _⟩ := h; rfl)) (fun cdv A' outer s H vs Q E hr h => ⟨t__law_digits K A, ?_, rd__law_digits h⟩)
  unfold t__law_digits
  exact (pss_cons (ps_set (i := 3) sc__law_digits.nd rfl (Or.inl rfl) (pe_lst pa_nil))
  (pss_cons (ps_for PassesOwn.never rfl (i_rng2 (pi_range2 (by rfl) T.n_range (pa_cons (pn 1) (pa_cons (pn 2) pa_nil)))) (pg_name (i := 4) sc__law_digits.nd rfl (Or.inl rfl))
    (pss_cons (ps_set (i := 5) sc__law_digits.nd rfl (Or.inl rfl) (pe_call (ok__law_cell T) (hr.mono (by decide)) (by rfl) T.m__law_cell T.F__law_cell.kp T.b__law_cell .nil pass0 (pa_cons (pn 0) (pa_cons (pn 4) pa_nil))))
  (p_cut (p_if (m_test (pt_cmpR o_lt (pn 5) pe_int (nomark _)))
    (pss_one (ps_set (i := 5) sc__law_digits.nd rfl (Or.inl rfl) (pe_op o_sub pe_int (pe_op o_mul pe_int (pn 5)))))
    pss_nil)
  (pss_one (p_if (m_test (pt_cmpR o_ge (pn 5) (pe_op o_pow pe_int pe_int) (nomark _)))
    (pss_one (ps_for PassesOwn.never rfl (i_rng1 (pi_range1 (by rfl) T.n_range (pa_cons pe_int pa_nil))) (pg_name (i := 6) sc__law_digits.nd rfl (Or.inl rfl))
    (pss_one (p_if (m_test (pt_cmpR o_gt (pn 5) pe_int (nomark _)))
    (pss_cons (ps_expr (pe_bm PySem.F.plainAttrs_list PySem.F.slot_list_append PySem.F.type_list_append mt_append (pn 3) (pa_cons (pe_op o_mod (pe_callTy c_int (by rfl) T.n_int (by decide +kernel) (pa_cons (pn 5) pa_nil)) pe_int) pa_nil)))
  (pss_one (ps_set (i := 5) sc__law_digits.nd rfl (Or.inl rfl) (pe_op o_fdiv (pn 5) pe_int))))
    pss_nil))))
    (pss_cons (ps_set (i := 7) sc__law_digits.nd rfl (Or.inl rfl) (pe_op o_mod (pe_callTy c_int (by rfl) T.n_int (by decide +kernel) (pa_cons (pe_op o_add (pe_op o_add (pe_op o_mul (pn 5) pe_int) (pe_op o_mul (pn 4) pe_int)) pe_int) pa_nil)) pe_int))
  (pss_one (ps_for PassesOwn.never rfl (i_rng1 (pi_range1 (by rfl) T.n_range (pa_cons pe_int pa_nil))) (pg_name (i := 6) sc__law_digits.nd rfl (Or.inl rfl))
    (pss_cons (ps_set (i := 7) sc__law_digits.nd rfl (Or.inl rfl) (pe_op o_mod (pe_callTy c_int (by rfl) T.n_int (by decide +kernel) (pa_cons (pe_op o_add (pe_op o_add (pe_op o_mul (pn 7) pe_int) (pe_op o_mul pe_int (pn 6))) pe_int) pa_nil)) pe_int))
  (pss_one (ps_expr (pe_bm PySem.F.plainAttrs_list PySem.F.slot_list_append PySem.F.type_list_append mt_append (pn 3) (pa_cons (pe_op o_mod (pe_callTy c_int (by rfl) T.n_int (by decide +kernel) (pa_cons (pe_op o_fdiv (pn 7) pe_int) pa_nil)) pe_int) pa_nil)))))))))))))
  (pss_one (ps_ret (pn 3)))))
theorem ok__law_draw (T : Top K mg A W) : FnOk P w K mg base CX0 1 W.a__law_draw W.d__law_draw ["_law_box", "_law_many"] (sp__law_draw K A) := by
  refine T.F__law_draw.ok sc__law_draw (fun vs H Q E h => by first | (obtain ⟨rfl, _⟩ := h; rfl) | (obtain ⟨_, rfl, _⟩ := h; rfl) | (obtain ⟨_, _, rfl, _⟩ := h; rfl) | (obtain ⟨_, _, _, rfl, _⟩ := h; rfl) | (obtain ⟨_, _, _, _, rfl, _⟩ := h; rfl) | (obtain ⟨_, _, _, _, _, rfl, _⟩ := h; rfl) | (obtain ⟨_, _, _, _, _, _, rfl, _⟩ := h; rfl) | (obtain ⟨_, _, _, _, _, _, _, rfl, _⟩ := h; rfl) | (obtain ⟨_, _, _, _, _, _, _, _, rfl, _⟩ := h; rfl) | (obtain ⟨_, _, _, _, _, _, _, _, _, rfl, _⟩ := h; rfl) | (obtain ⟨_, _, _, _, _, _, _, _, _, _, rfl, _⟩ := h; rfl) | (obtain ⟨_, _, _, _, _, _, _, _, _, _, _, rfl, _⟩ := h; rfl) | (obtain ⟨_, _, _, _, _, _, _, _, _, _, _, _, rfl, _⟩ := h; rfl) | (obtain ⟨_, _, _, _, _, _, _, _, _, _, _, _, _, rfl, _⟩ := h; rfl) | (obtain ⟨_, _, _, _, _, _, _, _, _, _, _, _, _, _, rfl, _⟩ := h; rfl) | (obtain ⟨_, _, _, _, _, _, _, _, _, _, _, _, _, _, _, rfl, _⟩ := h; rfl) | (obtain ⟨_, _, _, _, _, _, _, _, _, _, _, _, _, _, _, _, rfl, _⟩ := h; rfl) | (obtain ⟨_, _, _, _, _, _, _, _, _, _, _, _, _, _, _, _, _, rfl, _⟩ := h; rfl) | (obtain ⟨_, _, _, _, _, _, _, _, _, _, _, _, _, _, _, _, _, _, rfl, _⟩ := h; rfl) | (obtain ⟨_, _, _, _, _, _, _, _, _, _, _, _, _, _, _, _, _, _, _, rfl, _⟩ := h; rfl) | (obtain ⟨_, _, _, _, _, _, _, _, _, _, _, _, _, _, _, _, _, _, _, _, rfl, _⟩ := h; rfl) | (obtain ⟨_, _, _, _, _, _, _, _, _, _, _, _, _, _, _, _, _, _, _, _, _, rfl, _⟩ := h; rfl) | (obtain ⟨_, _, _, _, _, _, _, _, _, _, _, _, _, _, _, _, _, _, _, _, _, _, rfl, _⟩ := h; rfl) | (obtain ⟨_, _, _, _, _, _, _, _, _, _, _, _, _, _, _, _, _, _, _, _, _, _, _, rfl, _⟩ := h; rfl) | (obtain ⟨_, _, _, _, _, _, _, _, _, _, _, _, _, _, _, _, _, _, _, _, _, _, _, _, rfl, _⟩ := h; rfl) | (obtain ⟨_, _, _, _, _, _, _, _, _, _, _, _, _, _, _, _, _, _, _, _, _, _, _, _, _, rfl, _⟩ := h; rfl) | (obtain ⟨_, _, _, _, _, _, _, _, _, _, _, _, _, _, _, _, _, _, _, _, _, _, _, _, _, _, rfl, _⟩ := h; rfl) | (obtain ⟨_, _, _, _, _, _, _, _, _, _, _, _, _, _, _, _, _, _, _, _, _, _, _, _, _, _, _, rfl, _⟩ := h; rfl) | (obtain ⟨_, _, _, _, _, _, _, _, _, _, _, _, _, _, _, _, _, _, _, _, _, _, _, _, _, _, _, _, rfl, _⟩ := h; rfl) | (obtain ⟨_, _, _, _, _, _, _, _, _, _, _, _, _, _, _, _, _, _, _, _, _, _, _, _, _, _, _, _, _, rfl, _⟩ := h; rfl) | (obtain ⟨_, _, _, _, _, _, _, _, _, _, _, _, _, _, _, _, _, _, _, _, _, _, _, _, _, _, _, _, _, _, rfl, _⟩ := h; rfl) | (obtain ⟨_, _, _, _, _, _, _, _, _, _, _, _, _, _, _, _, _, _, _, _, _, _, _, _, _, _, _, _, _, _, _, rfl, _⟩ := h; rfl)) (fun cdv A' outer s H vs Q E hr h => ⟨t__law_draw K A, ?_, rd__law_draw h⟩)
  unfold t__law_draw
  exact (pss_cons (ps_set (i := 2) sc__law_draw.nd rfl (Or.inl rfl) (pe_ix ix_seq (pn 0) pe_int (fun _ _ => rfl)))
  (pss_cons (ps_asg (pe_op o_add (pn 2) pe_int) (pg_sub (pn 0) pe_int set_list))
  (pss_cons (p_if (m_test (pt_cmpR o_lt (pn 2) (pe_callB c_len (by rfl) T.n_len (by decide +kernel) (pa_cons (pe_ix ix_seq (pn 0) pe_int (fun _ _ => rfl)) pa_nil)) (nomark _)))
    (pss_one (ps_ret (pe_op o_mod (pe_callTy c_int (by rfl) T.n_int (by decide +kernel) (pa_cons (pe_ix ix_seq (pe_ix ix_seq (pn 0) pe_int (fun _ _ => rfl)) (pn 2) (fun _ _ => rfl)) pa_nil)) (pn 1))))
    pss_nil)
  (pss_one (ps_ret (pe_op o_mod (pe_callTy c_int (by rfl) T.n_int (by decide +kernel) (pa_cons (pe_op o_add (pe_op o_mul (pn 2) pe_int) pe_int) pa_nil)) (pn 1)))))))
theorem ok__law_same (T : Top K mg A W) : FnG P w K mg base 1 W.a__law_same W.d__law_same ["_law_actual", "_law_due"] (sp__law_same K A) := by
  refine okG T.F__law_same sc__law_same (fun vs H Q E h => by first | (obtain ⟨rfl, _⟩ := h; rfl) | (obtain ⟨_, rfl, _⟩ := h; rfl) | (obtain ⟨_, _, rfl, _⟩ := h; rfl) | (obtain ⟨_, _, _, rfl, _⟩ := h; rfl) | (obtain ⟨_, _, _, _, rfl, _⟩ := h; rfl) | (obtain ⟨_, _, _, _, _, rfl, _⟩ := h; rfl) | (obtain ⟨_, _, _, _, _, _, rfl, _⟩ := h; rfl) | (obtain ⟨_, _, _, _, _, _, _, rfl, _⟩ := h; rfl) | (obtain ⟨_, _, _, _, _, _, _, _, rfl, _⟩ := h; rfl) | (obtain ⟨_, _, _, _, _, _, _, _, _, rfl, _⟩ := h; rfl) | (obtain ⟨_, _, _, _, _, _, _, _, _, _, rfl, _⟩ := h; rfl) | (obtain ⟨_, _, _, _, _, _, _, _, _, _, _, rfl, _⟩ := h; rfl) | (obtain ⟨_, _, _, _, _, _, _, _, _, _, _, _, rfl, _⟩ := h; rfl) | (obtain ⟨_, _, _, _, _, _, _, _, _, _, _, _, _, rfl, _⟩ := h; rfl) | (obtain ⟨_, _, _, _, _, _, _, _, _, _, _, _, _, _, rfl, _⟩ := h; rfl) | (obtain ⟨_, _, _, _, _, _, _, _, _, _, _, _, _, _, _, rfl, _⟩ := h; rfl) | (obtain ⟨_, _, _, _, _, _, _, _, _, _, _, _, _, _, _, _, rfl, _⟩ := h; rfl) | (obtain ⟨_, _, _, _, _, _, _, _, _, _, _, _, _, _, _, _, _, rfl, _⟩ := h; rfl) | (obtain ⟨_, _, _, _, _, _, _, _, _, _, _, _, _, _, _, _, _, _, rfl, _⟩ := h; rfl) | (obtain ⟨_, _, _, _, _, _, _, _, _, _, _, _, _, _, _, _, _, _, _, rfl, _⟩ := h; rfl) | (obtain ⟨_, _, _, _, _, _, _, _, _, _, _, _, _, _, _, _, _, _, _, _, rfl, _⟩ := h; rfl) | (obtain ⟨_, _, _, _, _, _, _, _, _, _, _, _, _, _, _, _, _, _, _, _, _, rfl, _⟩ := h; rfl) | (obtain ⟨_, _, _, _, _, _, _, _, _, _, _, _, _, _, _, _, _, _, _, _, _, _, rfl, _⟩ := h; rfl) | (obtain ⟨_, _, _, _, _, _, _, _, _, _, _, _, _, _, _, _, _, _, _, _, _, _, _, rfl, _⟩ := h; rfl) | (obtain ⟨_, _, _, _, _, _, _, _, _, _, _, _, _, _, _, _, _, _, _, _, _, _, _, _, rfl, _⟩ := h; rfl) | (obtain ⟨_, _, _, _, _, _, _, _, _, _, _, _, _, _, _, _, _, _, _, _, _, _, _, _, _, rfl, _⟩ := h; rfl) | (obtain ⟨_, _, _, _, _, _, _, _, _, _, _, _, _, _, _, _, _, _, _, _, _, _, _, _, _, _, rfl, _⟩ := h; rfl) | (obtain ⟨_, _, _, _, _, _, _, _, _, _, _, _, _, _, _, _, _, _, _, _, _, _, _, _, _, _, _, rfl, _⟩ := h; rfl) | (obtain ⟨_, _, _, _, _, _, _, _, _, _, _, _, _, _, _, _, _, _, _, _, _, _, _, _, _, _, _, _, rfl, _⟩ := h; rfl) | (obtain ⟨_, _, _, _, _, _, _, _, _, _, _, _, _, _, _, _, _, _, _, _, _, _, _, _, _, _, _, _, _, rfl, _⟩ := h; rfl) | (obtain ⟨_, _, _, _, _, _, _, _, _, _, _, _, _, _, _, _, _, _, _, _, _, _, _, _, _, _, _, _, _, _, rfl, _⟩ := h; rfl) | (obtain ⟨_, _, _, _, _, _, _, _, _, _, _, _, _, _, _, _, _, _, _, _, _, _, _, _, _, _, _, _, _, _, _, rfl, _⟩ := h; rfl)) (fun cdv A' outer s H vs Q E hr hg h => ⟨t__law_same K A, ?_, rd__law_same h⟩)
  unfold t__law_same
  exact (pss_one (ps_ret (pe_cmpR (o_eq hr.units) (pe_callB (c_repr hg hr.units) (by rfl) T.n_repr (by decide +kernel) (pa_cons (pn 0) pa_nil)) (pe_callB (c_repr hg hr.units) (by rfl) T.n_repr (by decide +kernel) (pa_cons (pn 1) pa_nil)) (nomark _))))
theorem ok__law_number (T : Top K mg A W) : FnOk P w K mg base CX0 1 W.a__law_number W.d__law_number ["_law_digits_here", "_law_big"] (sp__law_number K A) := by
  refine T.F__law_number.ok sc__law_number (fun vs H Q E h => by first | (obtain ⟨rfl, _⟩ := h; rfl) | (obtain ⟨_, rfl, _⟩ := h; rfl) | (obtain ⟨_, _, rfl, _⟩ := h; rfl) | (obtain ⟨_, _, _, rfl, _⟩ := h; rfl) | (obtain ⟨_, _, _, _, rfl, _⟩ := h; rfl) | (obtain ⟨_, _, _, _, _, rfl, _⟩ := h; rfl) | (obtain ⟨_, _, _, _, _, _, rfl, _⟩ := h; rfl) | (obtain ⟨_, _, _, _, _, _, _, rfl, _⟩ := h; rfl) | (obtain ⟨_, _, _, _, _, _, _, _, rfl, _⟩ := h; rfl) | (obtain ⟨_, _, _, _, _, _, _, _, _, rfl, _⟩ := h; rfl) | (obtain ⟨_, _, _, _, _, _, _, _, _, _, rfl, _⟩ := h; rfl) | (obtain ⟨_, _, _, _, _, _, _, _, _, _, _, rfl, _⟩ := h; rfl) | (obtain ⟨_, _, _, _, _, _, _, _, _, _, _, _, rfl, _⟩ := h; rfl) | (obtain ⟨_, _, _, _, _, _, _, _, _, _, _, _, _, rfl, _⟩ := h; rfl) | (obtain ⟨_, _, _, _, _, _, _, _, _, _, _, _, _, _, rfl, _⟩ := h; rfl) | (obtain ⟨_, _, _, _, _, _, _, _, _, _, _, _, _, _, _, rfl, _⟩ := h; rfl) | (obtain ⟨_, _, _, _, _, _, _, _, _, _, _, _, _, _, _, _, rfl, _⟩ := h; rfl) | (obtain ⟨_, _, _, _, _, _, _, _, _, _, _, _, _, _, _, _, _, rfl, _⟩ := h; rfl) | (obtain ⟨_, _, _, _, _, _, _, _, _, _, _, _, _, _, _, _, _, _, rfl, _⟩ := h; rfl) | (obtain ⟨_, _, _, _, _, _, _, _, _, _, _, _, _, _, _, _, _, _, _, rfl, _⟩ := h; rfl) | (obtain ⟨_, _, _, _, _, _, _, _, _, _, _, _, _, _, _, _, _, _, _, _, rfl, _⟩ := h; rfl) | (obtain ⟨_, _, _, _, _, _, _, _, _, _, _, _, _, _, _, _, _, _, _, _, _, rfl, _⟩ := h; rfl) | (obtain ⟨_, _, _, _, _, _, _, _, _, _, _, _, _, _, _, _, _, _, _, _, _, _, rfl, _⟩ := h; rfl) | (obtain ⟨_, _, _, _, _, _, _, _, _, _, _, _, _, _, _, _, _, _, _, _, _, _, _, rfl, _⟩ := h; rfl) | (obtain ⟨_, _, _, _, _, _, _, _, _, _, _, _, _, _, _, _, _, _, _, _, _, _, _, _, rfl, _⟩ := h; rfl) | (obtain ⟨_, _, _, _, _, _, _, _, _, _, _, _, _, _, _, _, _, _, _, _, _, _, _, _, _, rfl, _⟩ := h; rfl) | (obtain ⟨_, _, _, _, _, _, _, _, _, _, _, _, _, _, _, _, _, _, _, _, _, _, _, _, _, _, rfl, _⟩ := h; rfl) | (obtain ⟨_, _, _, _, _, _, _, _, _, _, _, _, _, _, _, _, _, _, _, _, _, _, _, _, _, _, _, rfl, _⟩ := h; rfl) | (obtain ⟨_, _, _, _, _, _, _, _, _, _, _, _, _, _, _, _, _, _, _, _, _, _, _, _, _, _, _, _, rfl, _⟩ := h; rfl) | (obtain ⟨_, _, _, _, _, _, _, _, _, _, _, _, _, _, _, _, _, _, _, _, _, _, _, _, _, _, _, _, _, rfl, _⟩ := h; rfl) | (obtain ⟨_, _, _, _, _, _, _, _, _, _, _, _, _, _, _, _, _, _, _, _, _, _, _, _, _, _, _, _, _, _, rfl, _⟩ := h; rfl) | (obtain ⟨_, _, _, _, _, _, _, _, _, _, _, _, _, _, _, _, _, _, _, _, _, _, _, _, _, _, _, _, _, _, _, rfl, _⟩ := h; rfl)) (fun cdv A' outer s H vs Q E hr h => ⟨t__law_number K A, ?_, rd__law_number h⟩)
  unfold t__law_number
  exact (pss_cons (ps_set (i := 2) sc__law_number.nd rfl (Or.inl rfl) pe_int)
  (pss_cons (ps_set (i := 3) sc__law_number.nd rfl (Or.inl rfl) (pe_callTy c_list (by rfl) T.n_list (by decide +kernel) (pa_cons (pn 0) pa_nil)))
  (p_cut (p_if (pt_not (p_truth (pn 1) (by intro _; rfl)))
    (pss_one (ps_expr (pe_bm0 PySem.F.plainAttrs_list PySem.F.slot_list_reverse PySem.F.type_list_reverse mt_reverse (pn 3))))
    pss_nil)
  (pss_cons (ps_for PassesOwn.never rfl (i_list (pi_list (pn 3))) (pg_name (i := 4) sc__law_number.nd rfl (Or.inl rfl))
    (pss_one (ps_set (i := 2) sc__law_number.nd rfl (Or.inl rfl) (pe_op o_add (pe_op o_mul (pn 2) pe_int) (pn 4)))))
  (pss_one (ps_ret (pn 2)))))))
theorem ok__law_with (T : Top K mg A W) : FnOk P w K mg base CX0 2 W.a__law_with W.d__law_with ["_law_digits_here", "_law_slot_here", "_law_value"] (sp__law_with K A) := by
  refine T.F__law_with.ok sc__law_with (fun vs H Q E h => by first | (obtain ⟨rfl, _⟩ := h; rfl) | (obtain ⟨_, rfl, _⟩ := h; rfl) | (obtain ⟨_, _, rfl, _⟩ := h; rfl) | (obtain ⟨_, _, _, rfl, _⟩ := h; rfl) | (obtain ⟨_, _, _, _, rfl, _⟩ := h; rfl) | (obtain ⟨_, _, _, _, _, rfl, _⟩ := h; rfl) | (obtain ⟨_, _, _, _, _, _, rfl, _⟩ := h; rfl) | (obtain ⟨_, _, _, _, _, _, _, rfl, _⟩ := h; rfl) | (obtain ⟨_, _, _, _, _, _, _, _, rfl, _⟩ := h; rfl) | (obtain ⟨_, _, _, _, _, _, _, _, _, rfl, _⟩ := h; rfl) | (obtain ⟨_, _, _, _, _, _, _, _, _, _, rfl, _⟩ := h; rfl) | (obtain ⟨_, _, _, _, _, _, _, _, _, _, _, rfl, _⟩ := h; rfl) | (obtain ⟨_, _, _, _, _, _, _, _, _, _, _, _, rfl, _⟩ := h; rfl) | (obtain ⟨_, _, _, _, _, _, _, _, _, _, _, _, _, rfl, _⟩ := h; rfl) | (obtain ⟨_, _, _, _, _, _, _, _, _, _, _, _, _, _, rfl, _⟩ := h; rfl) | (obtain ⟨_, _, _, _, _, _, _, _, _, _, _, _, _, _, _, rfl, _⟩ := h; rfl) | (obtain ⟨_, _, _, _, _, _, _, _, _, _, _, _, _, _, _, _, rfl, _⟩ := h; rfl) | (obtain ⟨_, _, _, _, _, _, _, _, _, _, _, _, _, _, _, _, _, rfl, _⟩ := h; rfl) | (obtain ⟨_, _, _, _, _, _, _, _, _, _, _, _, _, _, _, _, _, _, rfl, _⟩ := h; rfl) | (obtain ⟨_, _, _, _, _, _, _, _, _, _, _, _, _, _, _, _, _, _, _, rfl, _⟩ := h; rfl) | (obtain ⟨_, _, _, _, _, _, _, _, _, _, _, _, _, _, _, _, _, _, _, _, rfl, _⟩ := h; rfl) | (obtain ⟨_, _, _, _, _, _, _, _, _, _, _, _, _, _, _, _, _, _, _, _, _, rfl, _⟩ := h; rfl) | (obtain ⟨_, _, _, _, _, _, _, _, _, _, _, _, _, _, _, _, _, _, _, _, _, _, rfl, _⟩ := h; rfl) | (obtain ⟨_, _, _, _, _, _, _, _, _, _, _, _, _, _, _, _, _, _, _, _, _, _, _, rfl, _⟩ := h; rfl) | (obtain ⟨_, _, _, _, _, _, _, _, _, _, _, _, _, _, _, _, _, _, _, _, _, _, _, _, rfl, _⟩ := h; rfl) | (obtain ⟨_, _, _, _, _, _, _, _, _, _, _, _, _, _, _, _, _, _, _, _, _, _, _, _, _, rfl, _⟩ := h; rfl) | (obtain ⟨_, _, _, _, _, _, _, _, _, _, _, _, _, _, _, _, _, _, _, _, _, _, _, _, _, _, rfl, _⟩ := h; rfl) | (obtain ⟨_, _, _, _, _, _, _, _, _, _, _, _, _, _, _, _, _, _, _, _, _, _, _, _, _, _, _, rfl, _⟩ := h; rfl) | (obtain ⟨_, _, _, _, _, _, _, _, _, _, _, _, _, _, _, _, _, _, _, _, _, _, _, _, _, _, _, _, rfl, _⟩ := h; rfl) | (obtain ⟨_, _, _, _, _, _, _, _, _, _, _, _, _, _, _, _, _, _, _, _, _, _, _, _, _, _, _, _, _, rfl, _⟩ := h; rfl) | (obtain ⟨_, _, _, _, _, _, _, _, _, _, _, _, _, _, _, _, _, _, _, _, _, _, _, _, _, _, _, _, _, _, rfl, _⟩ := h; rfl) | (obtain ⟨_, _, _, _, _, _, _, _, _, _, _, _, _, _, _, _, _, _, _, _, _, _, _, _, _, _, _, _, _, _, _, rfl, _⟩ := h; rfl)) (fun cdv A' outer s H vs Q E hr h => ⟨t__law_with K A, ?_, rd__law_with h⟩)
  unfold t__law_with
  exact (pss_cons (ps_asg (pn 1) (pg_tup rfl (p_gcons (pg_name (i := 3) sc__law_with.nd rfl (Or.inl rfl)) (p_gcons (pg_name (i := 4) sc__law_with.nd rfl (Or.inl rfl)) (p_gcons (pg_name (i := 5) sc__law_with.nd rfl (Or.inl rfl)) (p_gcons (pg_name (i := 6) sc__law_with.nd rfl (Or.inl rfl)) (p_gcons (pg_name (i := 7) sc__law_with.nd rfl (Or.inl rfl)) p_gnil)))))))
  (pss_cons (ps_set (i := 8) sc__law_with.nd rfl (Or.inl rfl) (pe_call (ok__law_number T) (hr.mono (by decide)) (by rfl) T.m__law_number T.F__law_number.kp T.b__law_number .nil pass0 (pa_cons (pn 0) (pa_cons (pn 4) pa_nil))))
  (pss_cons (ps_set (i := 9) sc__law_with.nd rfl (Or.inl rfl) (pe_op o_mod (pe_op o_shr (pn 8) (pn 5)) (pe_op o_shl pe_int (pn 6))))
  (pss_cons (ps_set (i := 8) sc__law_with.nd rfl (Or.inl rfl) (pe_op o_add (pn 8) (pe_op o_shl (pe_op o_sub (pe_op o_mod (pn 2) (pe_op o_shl pe_int (pn 6))) (pn 9)) (pn 5))))
  (pss_cons (ps_set (i := 10) sc__law_with.nd rfl (Or.inl rfl) (pe_lst pa_nil))
  (pss_cons (ps_for PassesOwn.never rfl (i_rng1 (pi_range1 (by rfl) T.n_range (pa_cons (pn 3) pa_nil))) (pg_name (i := 11) sc__law_with.nd rfl (Or.inl rfl))
    (pss_cons (ps_expr (pe_bm PySem.F.plainAttrs_list PySem.F.slot_list_append PySem.F.type_list_append mt_append (pn 10) (pa_cons (pe_op o_mod (pn 8) pe_int) pa_nil)))
  (pss_one (ps_set (i := 8) sc__law_with.nd rfl (Or.inl rfl) (pe_op o_fdiv (pn 8) pe_int)))))
  (p_cut (p_if (p_truth (pn 4) (by intro _; rfl))
    (pss_one (ps_expr (pe_bm0 PySem.F.plainAttrs_list PySem.F.slot_list_reverse PySem.F.type_list_reverse mt_reverse (pn 10))))
    pss_nil)
  (pss_one (ps_ret (pn 10))))))))))
theorem ok__law_bounds (T : Top K mg A W) : FnOk P w K mg base CX0 1 W.a__law_bounds W.d__law_bounds ["_law_slot_here"] (sp__law_bounds K A) := by
  refine T.F__law_bounds.ok sc__law_bounds (fun vs H Q E h => by first | (obtain ⟨rfl, _⟩ := h; rfl) | (obtain ⟨_, rfl, _⟩ := h; rfl) | (obtain ⟨_, _, rfl, _⟩ := h; rfl) | (obtain ⟨_, _, _, rfl, _⟩ := h; rfl) | (obtain ⟨_, _, _, _, rfl, _⟩ := h; rfl) | (obtain ⟨_, _, _, _, _, rfl, _⟩ := h; rfl) | (obtain ⟨_, _, _, _, _, _, rfl, _⟩ := h; rfl) | (obtain ⟨_, _, _, _, _, _, _, rfl, _⟩ := h; rfl) | (obtain ⟨_, _, _, _, _, _, _, _, rfl, _⟩ := h; rfl) | (obtain ⟨_, _, _, _, _, _, _, _, _, rfl, _⟩ := h; rfl) | (obtain ⟨_, _, _, _, _, _, _, _, _, _, rfl, _⟩ := h; rfl) | (obtain ⟨_, _, _, _, _, _, _, _, _, _, _, rfl, _⟩ := h; rfl) | (obtain ⟨_, _, _, _, _, _, _, _, _, _, _, _, rfl, _⟩ := h; rfl) | (obtain ⟨_, _, _, _, _, _, _, _, _, _, _, _, _, rfl, _⟩ := h; rfl) | (obtain ⟨_, _, _, _, _, _, _, _, _, _, _, _, _, _, rfl, _⟩ := h; rfl) | (obtain ⟨_, _, _, _, _, _, _, _, _, _, _, _, _, _, _, rfl, _⟩ := h; rfl) | (obtain ⟨_, _, _, _, _, _, _, _, _, _, _, _, _, _, _, _, rfl, _⟩ := h; rfl) | (obtain ⟨_, _, _, _, _, _, _, _, _, _, _, _, _, _, _, _, _, rfl, _⟩ := h; rfl) | (obtain ⟨_, _, _, _, _, _, _, _, _, _, _, _, _, _, _, _, _, _, rfl, _⟩ := h; rfl) | (obtain ⟨_, _, _, _, _, _, _, _, _, _, _, _, _, _, _, _, _, _, _, rfl, _⟩ := h; rfl) | (obtain ⟨_, _, _, _, _, _, _, _, _, _, _, _, _, _, _, _, _, _, _, _, rfl, _⟩ := h; rfl) | (obtain ⟨_, _, _, _, _, _, _, _, _, _, _, _, _, _, _, _, _, _, _, _, _, rfl, _⟩ := h; rfl) | (obtain ⟨_, _, _, _, _, _, _, _, _, _, _, _, _, _, _, _, _, _, _, _, _, _, rfl, _⟩ := h; rfl) | (obtain ⟨_, _, _, _, _, _, _, _, _, _, _, _, _, _, _, _, _, _, _, _, _, _, _, rfl, _⟩ := h; rfl) | (obtain ⟨_, _, _, _, _, _, _, _, _, _, _, _, _, _, _, _, _, _, _, _, _, _, _, _, rfl, _⟩ := h; rfl) | (obtain ⟨_, _, _, _, _, _, _, _, _, _, _, _, _, _, _, _, _, _, _, _, _, _, _, _, _, rfl, _⟩ := h; rfl) | (obtain ⟨_, _, _, _, _, _, _, _, _, _, _, _, _, _, _, _, _, _, _, _, _, _, _, _, _, _, rfl, _⟩ := h; rfl) | (obtain ⟨_, _, _, _, _, _, _, _, _, _, _, _, _, _, _, _, _, _, _, _, _, _, _, _, _, _, _, rfl, _⟩ := h; rfl) | (obtain ⟨_, _, _, _, _, _, _, _, _, _, _, _, _, _, _, _, _, _, _, _, _, _, _, _, _, _, _, _, rfl, _⟩ := h; rfl) | (obtain ⟨_, _, _, _, _, _, _, _, _, _, _, _, _, _, _, _, _, _, _, _, _, _, _, _, _, _, _, _, _, rfl, _⟩ := h; rfl) | (obtain ⟨_, _, _, _, _, _, _, _, _, _, _, _, _, _, _, _, _, _, _, _, _, _, _, _, _, _, _, _, _, _, rfl, _⟩ := h; rfl) | (obtain ⟨_, _, _, _, _, _, _, _, _, _, _, _, _, _, _, _, _, _, _, _, _, _, _, _, _, _, _, _, _, _, _, rfl, _⟩ := h; rfl)) (fun cdv A' outer s H vs Q E hr h => ⟨t__law_bounds K A, ?_, rd__law_bounds h⟩)
  unfold t__law_bounds
  exact (pss_cons (p_if (p_truth (pe_ix ix_seq (pn 0) pe_int (fun _ _ => rfl)) (by intro _; rfl))
    (pss_one (ps_ret (pe_lst (pa_cons (pe_op o_sub pe_int (pe_op o_shl pe_int (pe_op o_sub (pe_ix ix_seq (pn 0) pe_int (fun _ _ => rfl)) pe_int))) (pa_cons (pe_op o_sub (pe_op o_shl pe_int (pe_op o_sub (pe_ix ix_seq (pn 0) pe_int (fun _ _ => rfl)) pe_int)) pe_int) pa_nil)))))
    pss_nil)
  (pss_one (ps_ret (pe_lst (pa_cons pe_int (pa_cons (pe_op o_sub (pe_op o_shl pe_int (pe_ix ix_seq (pn 0) pe_int (fun _ _ => rfl))) pe_int) pa_nil))))))
theorem ok__law_a_slot (T : Top K mg A W) : FnOk P w K mg base CX0 2 W.a__law_a_slot W.d__law_a_slot ["_law_box"] (sp__law_a_slot K A) := by
  refine T.F__law_a_slot.ok sc__law_a_slot (fun vs H Q E h => by first | (obtain ⟨rfl, _⟩ := h; rfl) | (obtain ⟨_, rfl, _⟩ := h; rfl) | (obtain ⟨_, _, rfl, _⟩ := h; rfl) | (obtain ⟨_, _, _, rfl, _⟩ := h; rfl) | (obtain ⟨_, _, _, _, rfl, _⟩ := h; rfl) | (obtain ⟨_, _, _, _, _, rfl, _⟩ := h; rfl) | (obtain ⟨_, _, _, _, _, _, rfl, _⟩ := h; rfl) | (obtain ⟨_, _, _, _, _, _, _, rfl, _⟩ := h; rfl) | (obtain ⟨_, _, _, _, _, _, _, _, rfl, _⟩ := h; rfl) | (obtain ⟨_, _, _, _, _, _, _, _, _, rfl, _⟩ := h; rfl) | (obtain ⟨_, _, _, _, _, _, _, _, _, _, rfl, _⟩ := h; rfl) | (obtain ⟨_, _, _, _, _, _, _, _, _, _, _, rfl, _⟩ := h; rfl) | (obtain ⟨_, _, _, _, _, _, _, _, _, _, _, _, rfl, _⟩ := h; rfl) | (obtain ⟨_, _, _, _, _, _, _, _, _, _, _, _, _, rfl, _⟩ := h; rfl) | (obtain ⟨_, _, _, _, _, _, _, _, _, _, _, _, _, _, rfl, _⟩ := h; rfl) | (obtain ⟨_, _, _, _, _, _, _, _, _, _, _, _, _, _, _, rfl, _⟩ := h; rfl) | (obtain ⟨_, _, _, _, _, _, _, _, _, _, _, _, _, _, _, _, rfl, _⟩ := h; rfl) | (obtain ⟨_, _, _, _, _, _, _, _, _, _, _, _, _, _, _, _, _, rfl, _⟩ := h; rfl) | (obtain ⟨_, _, _, _, _, _, _, _, _, _, _, _, _, _, _, _, _, _, rfl, _⟩ := h; rfl) | (obtain ⟨_, _, _, _, _, _, _, _, _, _, _, _, _, _, _, _, _, _, _, rfl, _⟩ := h; rfl) | (obtain ⟨_, _, _, _, _, _, _, _, _, _, _, _, _, _, _, _, _, _, _, _, rfl, _⟩ := h; rfl) | (obtain ⟨_, _, _, _, _, _, _, _, _, _, _, _, _, _, _, _, _, _, _, _, _, rfl, _⟩ := h; rfl) | (obtain ⟨_, _, _, _, _, _, _, _, _, _, _, _, _, _, _, _, _, _, _, _, _, _, rfl, _⟩ := h; rfl) | (obtain ⟨_, _, _, _, _, _, _, _, _, _, _, _, _, _, _, _, _, _, _, _, _, _, _, rfl, _⟩ := h; rfl) | (obtain ⟨_, _, _, _, _, _, _, _, _, _, _, _, _, _, _, _, _, _, _, _, _, _, _, _, rfl, _⟩ := h; rfl) | (obtain ⟨_, _, _, _, _, _, _, _, _, _, _, _, _, _, _, _, _, _, _, _, _, _, _, _, _, rfl, _⟩ := h; rfl) | (obtain ⟨_, _, _, _, _, _, _, _, _, _, _, _, _, _, _, _, _, _, _, _, _, _, _, _, _, _, rfl, _⟩ := h; rfl) | (obtain ⟨_, _, _, _, _, _, _, _, _, _, _, _, _, _, _, _, _, _, _, _, _, _, _, _, _, _, _, rfl, _⟩ := h; rfl) | (obtain ⟨_, _, _, _, _, _, _, _, _, _, _, _, _, _, _, _, _, _, _, _, _, _, _, _, _, _, _, _, rfl, _⟩ := h; rfl) | (obtain ⟨_, _, _, _, _, _, _, _, _, _, _, _, _, _, _, _, _, _, _, _, _, _, _, _, _, _, _, _, _, rfl, _⟩ := h; rfl) | (obtain ⟨_, _, _, _, _, _, _, _, _, _, _, _, _, _, _, _, _, _, _, _, _, _, _, _, _, _, _, _, _, _, rfl, _⟩ := h; rfl) | (obtain ⟨_, _, _, _, _, _, _, _, _, _, _, _, _, _, _, _, _, _, _, _, _, _, _, _, _, _, _, _, _, _, _, rfl, _⟩ := h; rfl)) (fun cdv A' outer s H vs Q E hr h => ⟨t__law_a_slot K A, ?_, rd__law_a_slot h⟩)
  unfold t__law_a_slot
  exact (pss_cons (ps_set (i := 1) sc__law_a_slot.nd rfl (Or.inl rfl) (pe_ix ix_seq (pe_lst (pa_cons pe_int (pa_cons pe_int (pa_cons pe_int pa_nil)))) (pe_call (ok__law_draw T) (hr.mono (by decide)) (by rfl) T.m__law_draw T.F__law_draw.kp T.b__law_draw .nil pass0 (pa_cons (pn 0) (pa_cons pe_int pa_nil))) (fun _ _ => rfl)))
  (pss_cons (ps_set (i := 2) sc__law_a_slot.nd rfl (Or.inl rfl) pe_int)
  (pss_cons (ps_set (i := 3) sc__law_a_slot.nd rfl (Or.inl rfl) (pe_op o_mul pe_int (pn 1)))
  (p_cut (p_if (m_test (pt_cmpR (o_eq hr.units) (pe_call (ok__law_draw T) (hr.mono (by decide)) (by rfl) T.m__law_draw T.F__law_draw.kp T.b__law_draw .nil pass0 (pa_cons (pn 0) (pa_cons pe_int pa_nil))) pe_int (nomark _)))
    (pss_cons (ps_set (i := 2) sc__law_a_slot.nd rfl (Or.inl rfl) (pe_call (ok__law_draw T) (hr.mono (by decide)) (by rfl) T.m__law_draw T.F__law_draw.kp T.b__law_draw .nil pass0 (pa_cons (pn 0) (pa_cons (pe_op o_mul pe_int (pn 1)) pa_nil))))
  (pss_one (ps_set (i := 3) sc__law_a_slot.nd rfl (Or.inl rfl) (pe_op o_add pe_int (pe_call (ok__law_draw T) (hr.mono (by decide)) (by rfl) T.m__law_draw T.F__law_draw.kp T.b__law_draw .nil pass0 (pa_cons (pn 0) (pa_cons (pe_op o_sub (pe_op o_mul pe_int (pn 1)) (pn 2)) pa_nil)))))))
    pss_nil)
  (pss_one (ps_ret (pe_tup (pa_cons (pn 1) (pa_cons (pe_cmpR (o_eq hr.units) (pe_call (ok__law_draw T) (hr.mono (by decide)) (by rfl) T.m__law_draw T.F__law_draw.kp T.b__law_draw .nil pass0 (pa_cons (pn 0) (pa_cons pe_int pa_nil))) pe_int (nomark _)) (pa_cons (pn 2) (pa_cons (pn 3) (pa_cons (pe_cmpR (o_eq hr.units) (pe_call (ok__law_draw T) (hr.mono (by decide)) (by rfl) T.m__law_draw T.F__law_draw.kp T.b__law_draw .nil pass0 (pa_cons (pn 0) (pa_cons pe_int pa_nil))) pe_int (nomark _)) pa_nil))))))))))))
theorem ok__law_some (T : Top K mg A W) : FnOk P w K mg base CX0 2 W.a__law_some W.d__law_some ["_law_box", "_law_slot_here"] (sp__law_some K A) := by
  refine T.F__law_some.ok sc__law_some (fun vs H Q E h => by first | (obtain ⟨rfl, _⟩ := h; rfl) | (obtain ⟨_, rfl, _⟩ := h; rfl) | (obtain ⟨_, _, rfl, _⟩ := h; rfl) | (obtain ⟨_, _, _, rfl, _⟩ := h; rfl) | (obtain ⟨_, _, _, _, rfl, _⟩ := h; rfl) | (obtain ⟨_, _, _, _, _, rfl, _⟩ := h; rfl) | (obtain ⟨_, _, _, _, _, _, rfl, _⟩ := h; rfl) | (obtain ⟨_, _, _, _, _, _, _, rfl, _⟩ := h; rfl) | (obtain ⟨_, _, _, _, _, _, _, _, rfl, _⟩ := h; rfl) | (obtain ⟨_, _, _, _, _, _, _, _, _, rfl, _⟩ := h; rfl) | (obtain ⟨_, _, _, _, _, _, _, _, _, _, rfl, _⟩ := h; rfl) | (obtain ⟨_, _, _, _, _, _, _, _, _, _, _, rfl, _⟩ := h; rfl) | (obtain ⟨_, _, _, _, _, _, _, _, _, _, _, _, rfl, _⟩ := h; rfl) | (obtain ⟨_, _, _, _, _, _, _, _, _, _, _, _, _, rfl, _⟩ := h; rfl) | (obtain ⟨_, _, _, _, _, _, _, _, _, _, _, _, _, _, rfl, _⟩ := h; rfl) | (obtain ⟨_, _, _, _, _, _, _, _, _, _, _, _, _, _, _, rfl, _⟩ := h; rfl) | (obtain ⟨_, _, _, _, _, _, _, _, _, _, _, _, _, _, _, _, rfl, _⟩ := h; rfl) | (obtain ⟨_, _, _, _, _, _, _, _, _, _, _, _, _, _, _, _, _, rfl, _⟩ := h; rfl) | (obtain ⟨_, _, _, _, _, _, _, _, _, _, _, _, _, _, _, _, _, _, rfl, _⟩ := h; rfl) | (obtain ⟨_, _, _, _, _, _, _, _, _, _, _, _, _, _, _, _, _, _, _, rfl, _⟩ := h; rfl) | (obtain ⟨_, _, _, _, _, _, _, _, _, _, _, _, _, _, _, _, _, _, _, _, rfl, _⟩ := h; rfl) | (obtain ⟨_, _, _, _, _, _, _, _, _, _, _, _, _, _, _, _, _, _, _, _, _, rfl, _⟩ := h; rfl) | (obtain ⟨_, _, _, _, _, _, _, _, _, _, _, _, _, _, _, _, _, _, _, _, _, _, rfl, _⟩ := h; rfl) | (obtain ⟨_, _, _, _, _, _, _, _, _, _, _, _, _, _, _, _, _, _, _, _, _, _, _, rfl, _⟩ := h; rfl) | (obtain ⟨_, _, _, _, _, _, _, _, _, _, _, _, _, _, _, _, _, _, _, _, _, _, _, _, rfl, _⟩ := h; rfl) | (obtain ⟨_, _, _, _, _, _, _, _, _, _, _, _, _, _, _, _, _, _, _, _, _, _, _, _, _, rfl, _⟩ := h; rfl) | (obtain ⟨_, _, _, _, _, _, _, _, _, _, _, _, _, _, _, _, _, _, _, _, _, _, _, _, _, _, rfl, _⟩ := h; rfl) | (obtain ⟨_, _, _, _, _, _, _, _, _, _, _, _, _, _, _, _, _, _, _, _, _, _, _, _, _, _, _, rfl, _⟩ := h; rfl) | (obtain ⟨_, _, _, _, _, _, _, _, _, _, _, _, _, _, _, _, _, _, _, _, _, _, _, _, _, _, _, _, rfl, _⟩ := h; rfl) | (obtain ⟨_, _, _, _, _, _, _, _, _, _, _, _, _, _, _, _, _, _, _, _, _, _, _, _, _, _, _, _, _, rfl, _⟩ := h; rfl) | (obtain ⟨_, _, _, _, _, _, _, _, _, _, _, _, _, _, _, _, _, _, _, _, _, _, _, _, _, _, _, _, _, _, rfl, _⟩ := h; rfl) | (obtain ⟨_, _, _, _, _, _, _, _, _, _, _, _, _, _, _, _, _, _, _, _, _, _, _, _, _, _, _, _, _, _, _, rfl, _⟩ := h; rfl)) (fun cdv A' outer s H vs Q E hr h => ⟨t__law_some K A, ?_, rd__law_some h⟩)
  unfold t__law_some
  exact (pss_cons (ps_set (i := 2) sc__law_some.nd rfl (Or.inl rfl) (pe_call (ok__law_bounds T) (hr.mono (by decide)) (by rfl) T.m__law_bounds T.F__law_bounds.kp T.b__law_bounds .nil pass0 (pa_cons (pn 1) pa_nil)))
  (pss_cons (ps_set (i := 3) sc__law_some.nd rfl (Or.inl rfl) (pe_op o_add (pe_op o_sub (pe_ix ix_seq (pn 2) pe_int (fun _ _ => rfl)) (pe_ix ix_seq (pn 2) pe_int (fun _ _ => rfl))) pe_int))
  (pss_cons (ps_set (i := 4) sc__law_some.nd rfl (Or.inl rfl) (pe_call (ok__law_draw T) (hr.mono (by decide)) (by rfl) T.m__law_draw T.F__law_draw.kp T.b__law_draw .nil pass0 (pa_cons (pn 0) (pa_cons pe_int pa_nil))))
  (pss_cons (p_if (m_test (pt_cmpR (o_eq hr.units) (pn 4) pe_int (nomark _)))
    (pss_one (ps_ret (pe_ix ix_seq (pn 2) pe_int (fun _ _ => rfl))))
    pss_nil)
  (pss_cons (p_if (m_test (pt_cmpR (o_eq hr.units) (pn 4) pe_int (nomark _)))
    (pss_one (ps_ret (pe_ix ix_seq (pn 2) pe_int (fun _ _ => rfl))))
    pss_nil)
  (pss_one (ps_ret (pe_op o_add (pe_ix ix_seq (pn 2) pe_int (fun _ _ => rfl)) (pe_op o_mod (pe_callTy c_int (by rfl) T.n_int (by decide +kernel) (pa_cons (pe_op o_add (pe_op o_mul (pe_call (ok__law_draw T) (hr.mono (by decide)) (by rfl) T.m__law_draw T.F__law_draw.kp T.b__law_draw .nil pass0 (pa_cons (pn 0) (pa_cons pe_int pa_nil))) pe_int) (pe_call (ok__law_draw T) (hr.mono (by decide)) (by rfl) T.m__law_draw T.F__law_draw.kp T.b__law_draw .nil pass0 (pa_cons (pn 0) (pa_cons pe_int pa_nil)))) pa_nil)) (pn 3))))))))))
theorem ok__law_some_work (T : Top K mg A W) : FnOk P w K mg base CX0 3 W.a__law_some_work W.d__law_some_work ["_law_box"] (sp__law_some_work K A) := by
  refine T.F__law_some_work.ok sc__law_some_work (fun vs H Q E h => by first | (obtain ⟨rfl, _⟩ := h; rfl) | (obtain ⟨_, rfl, _⟩ := h; rfl) | (obtain ⟨_, _, rfl, _⟩ := h; rfl) | (obtain ⟨_, _, _, rfl, _⟩ := h; rfl) | (obtain ⟨_, _, _, _, rfl, _⟩ := h; rfl) | (obtain ⟨_, _, _, _, _, rfl, _⟩ := h; rfl) | (obtain ⟨_, _, _, _, _, _, rfl, _⟩ := h; rfl) | (obtain ⟨_, _, _, _, _, _, _, rfl, _⟩ := h; rfl) | (obtain ⟨_, _, _, _, _, _, _, _, rfl, _⟩ := h; rfl) | (obtain ⟨_, _, _, _, _, _, _, _, _, rfl, _⟩ := h; rfl) | (obtain ⟨_, _, _, _, _, _, _, _, _, _, rfl, _⟩ := h; rfl) | (obtain ⟨_, _, _, _, _, _, _, _, _, _, _, rfl, _⟩ := h; rfl) | (obtain ⟨_, _, _, _, _, _, _, _, _, _, _, _, rfl, _⟩ := h; rfl) | (obtain ⟨_, _, _, _, _, _, _, _, _, _, _, _, _, rfl, _⟩ := h; rfl) | (obtain ⟨_, _, _, _, _, _, _, _, _, _, _, _, _, _, rfl, _⟩ := h; rfl) | (obtain ⟨_, _, _, _, _, _, _, _, _, _, _, _, _, _, _, rfl, _⟩ := h; rfl) | (obtain ⟨_, _, _, _, _, _, _, _, _, _, _, _, _, _, _, _, rfl, _⟩ := h; rfl) | (obtain ⟨_, _, _, _, _, _, _, _, _, _, _, _, _, _, _, _, _, rfl, _⟩ := h; rfl) | (obtain ⟨_, _, _, _, _, _, _, _, _, _, _, _, _, _, _, _, _, _, rfl, _⟩ := h; rfl) | (obtain ⟨_, _, _, _, _, _, _, _, _, _, _, _, _, _, _, _, _, _, _, rfl, _⟩ := h; rfl) | (obtain ⟨_, _, _, _, _, _, _, _, _, _, _, _, _, _, _, _, _, _, _, _, rfl, _⟩ := h; rfl) | (obtain ⟨_, _, _, _, _, _, _, _, _, _, _, _, _, _, _, _, _, _, _, _, _, rfl, _⟩ := h; rfl) | (obtain ⟨_, _, _, _, _, _, _, _, _, _, _, _, _, _, _, _, _, _, _, _, _, _, rfl, _⟩ := h; rfl) | (obtain ⟨_, _, _, _, _, _, _, _, _, _, _, _, _, _, _, _, _, _, _, _, _, _, _, rfl, _⟩ := h; rfl) | (obtain ⟨_, _, _, _, _, _, _, _, _, _, _, _, _, _, _, _, _, _, _, _, _, _, _, _, rfl, _⟩ := h; rfl) | (obtain ⟨_, _, _, _, _, _, _, _, _, _, _, _, _, _, _, _, _, _, _, _, _, _, _, _, _, rfl, _⟩ := h; rfl) | (obtain ⟨_, _, _, _, _, _, _, _, _, _, _, _, _, _, _, _, _, _, _, _, _, _, _, _, _, _, rfl, _⟩ := h; rfl) | (obtain ⟨_, _, _, _, _, _, _, _, _, _, _, _, _, _, _, _, _, _, _, _, _, _, _, _, _, _, _, rfl, _⟩ := h; rfl) | (obtain ⟨_, _, _, _, _, _, _, _, _, _, _, _, _, _, _, _, _, _, _, _, _, _, _, _, _, _, _, _, rfl, _⟩ := h; rfl) | (obtain ⟨_, _, _, _, _, _, _, _, _, _, _, _, _, _, _, _, _, _, _, _, _, _, _, _, _, _, _, _, _, rfl, _⟩ := h; rfl) | (obtain ⟨_, _, _, _, _, _, _, _, _, _, _, _, _, _, _, _, _, _, _, _, _, _, _, _, _, _, _, _, _, _, rfl, _⟩ := h; rfl) | (obtain ⟨_, _, _, _, _, _, _, _, _, _, _, _, _, _, _, _, _, _, _, _, _, _, _, _, _, _, _, _, _, _, _, rfl, _⟩ := h; rfl)) (fun cdv A' outer s H vs Q E hr h => ⟨t__law_some_work K A, ?_, rd__law_some_work h⟩)
  unfold t__law_some_work
  exact (pss_cons (ps_set (i := 1) sc__law_some_work.nd rfl (Or.inl rfl) (pe_ix ix_seq (pe_lst (pa_cons pe_str (pa_cons pe_str (pa_cons pe_str (pa_cons pe_str (pa_cons pe_str pa_nil)))))) (pe_call (ok__law_draw T) (hr.mono (by decide)) (by rfl) T.m__law_draw T.F__law_draw.kp T.b__law_draw .nil pass0 (pa_cons (pn 0) (pa_cons pe_int pa_nil))) (fun _ _ => rfl)))
  (pss_cons (ps_set (i := 2) sc__law_some_work.nd rfl (Or.inl rfl) (pe_call (ok__law_a_slot T) (hr.mono (by decide)) (by rfl) T.m__law_a_slot T.F__law_a_slot.kp T.b__law_a_slot .nil pass0 (pa_cons (pn 0) pa_nil)))
  (pss_cons (ps_set (i := 3) sc__law_some_work.nd rfl (Or.inl rfl) (pe_call (ok__law_a_slot T) (hr.mono (by decide)) (by rfl) T.m__law_a_slot T.F__law_a_slot.kp T.b__law_a_slot .nil pass0 (pa_cons (pn 0) pa_nil)))
  (pss_cons (p_if (m_test (pt_cmpR (o_eq hr.units) (pn 1) pe_str (nomark _)))
    (pss_one (ps_ret (pe_lst (pa_cons (pn 1) (pa_cons pe_non (pa_cons (pn 3) (pa_cons (pe_call (ok__law_some T) (hr.mono (by decide)) (by rfl) T.m__law_some T.F__law_some.kp T.b__law_some .nil pass0 (pa_cons (pn 0) (pa_cons (pn 3) pa_nil))) pa_nil)))))))
    pss_nil)
  (pss_cons (p_if (m_test (pt_cmpR (o_eq hr.units) (pn 1) pe_str (nomark _)))
    (p_cut (p_if (m_test (pt_cmpR (o_eq hr.units) (pe_call (ok__law_draw T) (hr.mono (by decide)) (by rfl) T.m__law_draw T.F__law_draw.kp T.b__law_draw .nil pass0 (pa_cons (pn 0) (pa_cons pe_int pa_nil))) pe_int (nomark _)))
    (pss_one (ps_set (i := 3) sc__law_some_work.nd rfl (Or.inl rfl) (pn 2)))
    pss_nil)
  (pss_one (ps_ret (pe_lst (pa_cons (pn 1) (pa_cons (pn 2) (pa_cons (pn 3) (pa_cons pe_non pa_nil))))))))
    pss_nil)
  (pss_cons (ps_set (i := 4) sc__law_some_work.nd rfl (Or.inl rfl) pe_non)
  (p_cut (p_if (m_test (pt_cmpR (o_eq hr.units) (pn 1) pe_str (nomark _)))
    (pss_one (ps_set (i := 4) sc__law_some_work.nd rfl (Or.inl rfl) (pe_ix ix_seq (pe_lst (pa_cons (pe_call (ok__law_some T) (hr.mono (by decide)) (by rfl) T.m__law_some T.F__law_some.kp T.b__law_some .nil pass0 (pa_cons (pn 0) (pa_cons (pn 2) pa_nil))) (pa_cons (pe_op o_sub (pe_call (ok__law_draw T) (hr.mono (by decide)) (by rfl) T.m__law_draw T.F__law_draw.kp T.b__law_draw .nil pass0 (pa_cons (pn 0) (pa_cons pe_int pa_nil))) pe_int) pa_nil))) (pe_call (ok__law_draw T) (hr.mono (by decide)) (by rfl) T.m__law_draw T.F__law_draw.kp T.b__law_draw .nil pass0 (pa_cons (pn 0) (pa_cons pe_int pa_nil))) (fun _ _ => rfl))))
    pss_nil)
  (p_cut (p_if (m_test (pt_cmpR (o_eq hr.units) (pn 1) pe_str (nomark _)))
    (pss_one (ps_set (i := 4) sc__law_some_work.nd rfl (Or.inl rfl) (pe_call (ok__law_some T) (hr.mono (by decide)) (by rfl) T.m__law_some T.F__law_some.kp T.b__law_some .nil pass0 (pa_cons (pn 0) (pa_cons (pn 2) pa_nil)))))
    pss_nil)
  (pss_one (ps_ret (pe_lst (pa_cons (pn 1) (pa_cons (pn 2) (pa_cons pe_non (pa_cons (pn 4) pa_nil)))))))))))))))
theorem ok__law_told (T : Top K mg A W) : FnOk P w K mg base CX0 7 W.a__law_told W.d__law_told ["_law_work", "_law_data", "_law_source_at", "_law_target_at"] (sp__law_told K A) := by
  refine T.F__law_told.ok sc__law_told (fun vs H Q E h => by first | (obtain ⟨rfl, _⟩ := h; rfl) | (obtain ⟨_, rfl, _⟩ := h; rfl) | (obtain ⟨_, _, rfl, _⟩ := h; rfl) | (obtain ⟨_, _, _, rfl, _⟩ := h; rfl) | (obtain ⟨_, _, _, _, rfl, _⟩ := h; rfl) | (obtain ⟨_, _, _, _, _, rfl, _⟩ := h; rfl) | (obtain ⟨_, _, _, _, _, _, rfl, _⟩ := h; rfl) | (obtain ⟨_, _, _, _, _, _, _, rfl, _⟩ := h; rfl) | (obtain ⟨_, _, _, _, _, _, _, _, rfl, _⟩ := h; rfl) | (obtain ⟨_, _, _, _, _, _, _, _, _, rfl, _⟩ := h; rfl) | (obtain ⟨_, _, _, _, _, _, _, _, _, _, rfl, _⟩ := h; rfl) | (obtain ⟨_, _, _, _, _, _, _, _, _, _, _, rfl, _⟩ := h; rfl) | (obtain ⟨_, _, _, _, _, _, _, _, _, _, _, _, rfl, _⟩ := h; rfl) | (obtain ⟨_, _, _, _, _, _, _, _, _, _, _, _, _, rfl, _⟩ := h; rfl) | (obtain ⟨_, _, _, _, _, _, _, _, _, _, _, _, _, _, rfl, _⟩ := h; rfl) | (obtain ⟨_, _, _, _, _, _, _, _, _, _, _, _, _, _, _, rfl, _⟩ := h; rfl) | (obtain ⟨_, _, _, _, _, _, _, _, _, _, _, _, _, _, _, _, rfl, _⟩ := h; rfl) | (obtain ⟨_, _, _, _, _, _, _, _, _, _, _, _, _, _, _, _, _, rfl, _⟩ := h; rfl) | (obtain ⟨_, _, _, _, _, _, _, _, _, _, _, _, _, _, _, _, _, _, rfl, _⟩ := h; rfl) | (obtain ⟨_, _, _, _, _, _, _, _, _, _, _, _, _, _, _, _, _, _, _, rfl, _⟩ := h; rfl) | (obtain ⟨_, _, _, _, _, _, _, _, _, _, _, _, _, _, _, _, _, _, _, _, rfl, _⟩ := h; rfl) | (obtain ⟨_, _, _, _, _, _, _, _, _, _, _, _, _, _, _, _, _, _, _, _, _, rfl, _⟩ := h; rfl) | (obtain ⟨_, _, _, _, _, _, _, _, _, _, _, _, _, _, _, _, _, _, _, _, _, _, rfl, _⟩ := h; rfl) | (obtain ⟨_, _, _, _, _, _, _, _, _, _, _, _, _, _, _, _, _, _, _, _, _, _, _, rfl, _⟩ := h; rfl) | (obtain ⟨_, _, _, _, _, _, _, _, _, _, _, _, _, _, _, _, _, _, _, _, _, _, _, _, rfl, _⟩ := h; rfl) | (obtain ⟨_, _, _, _, _, _, _, _, _, _, _, _, _, _, _, _, _, _, _, _, _, _, _, _, _, rfl, _⟩ := h; rfl) | (obtain ⟨_, _, _, _, _, _, _, _, _, _, _, _, _, _, _, _, _, _, _, _, _, _, _, _, _, _, rfl, _⟩ := h; rfl) | (obtain ⟨_, _, _, _, _, _, _, _, _, _, _, _, _, _, _, _, _, _, _, _, _, _, _, _, _, _, _, rfl, _⟩ := h; rfl) | (obtain ⟨_, _, _, _, _, _, _, _, _, _, _, _, _, _, _, _, _, _, _, _, _, _, _, _, _, _, _, _, rfl, _⟩ := h; rfl) | (obtain ⟨_, _, _, _, _, _, _, _, _, _, _, _, _, _, _, _, _, _, _, _, _, _, _, _, _, _, _, _, _, rfl, _⟩ := h; rfl) | (obtain ⟨_, _, _, _, _, _, _, _, _, _, _, _, _, _, _, _, _, _, _, _, _, _, _, _, _, _, _, _, _, _, rfl, _⟩ := h; rfl) | (obtain ⟨_, _, _, _, _, _, _, _, _, _, _, _, _, _, _, _, _, _, _, _, _, _, _, _, _, _, _, _, _, _, _, rfl, _⟩ := h; rfl)) (fun cdv A' outer s H vs Q E hr h => ⟨t__law_told K A, ?_, rd__law_told T.xc h⟩)
  unfold t__law_told
  exact (pss_one (p_tryOnly rfl rfl ⟨rfl, by decide, .inl T.m_OutOfRange⟩ takesNo
    (fun W pins9 xe9 tk hpo => (pss_one (ps_ret (pe_methE (pn 0) T.cl_Work T.M_Work_step (ok_Work_step T) (hr.mono (by decide)) T.b_Work_step (fun σ => passAt tk σ) (pa_cons (pn 1) (pa_cons (pn 2) (pa_cons (pn 3) pa_nil)))))))
    (fun a oe cls d pins9 hz hf => (pss_one (ps_ret (pe_tup (pa_cons pe_str pa_nil)))))))
theorem ok__law_run (T : Top K mg A W) : FnOk P w K mg base CX0 8 W.a__law_run W.d__law_run ["_law_works", "_law_places", "_law_order", "_law_data"] (sp__law_run K A) := by
  refine T.F__law_run.ok sc__law_run (fun vs H Q E h => by first | (obtain ⟨rfl, _⟩ := h; rfl) | (obtain ⟨_, rfl, _⟩ := h; rfl) | (obtain ⟨_, _, rfl, _⟩ := h; rfl) | (obtain ⟨_, _, _, rfl, _⟩ := h; rfl) | (obtain ⟨_, _, _, _, rfl, _⟩ := h; rfl) | (obtain ⟨_, _, _, _, _, rfl, _⟩ := h; rfl) | (obtain ⟨_, _, _, _, _, _, rfl, _⟩ := h; rfl) | (obtain ⟨_, _, _, _, _, _, _, rfl, _⟩ := h; rfl) | (obtain ⟨_, _, _, _, _, _, _, _, rfl, _⟩ := h; rfl) | (obtain ⟨_, _, _, _, _, _, _, _, _, rfl, _⟩ := h; rfl) | (obtain ⟨_, _, _, _, _, _, _, _, _, _, rfl, _⟩ := h; rfl) | (obtain ⟨_, _, _, _, _, _, _, _, _, _, _, rfl, _⟩ := h; rfl) | (obtain ⟨_, _, _, _, _, _, _, _, _, _, _, _, rfl, _⟩ := h; rfl) | (obtain ⟨_, _, _, _, _, _, _, _, _, _, _, _, _, rfl, _⟩ := h; rfl) | (obtain ⟨_, _, _, _, _, _, _, _, _, _, _, _, _, _, rfl, _⟩ := h; rfl) | (obtain ⟨_, _, _, _, _, _, _, _, _, _, _, _, _, _, _, rfl, _⟩ := h; rfl) | (obtain ⟨_, _, _, _, _, _, _, _, _, _, _, _, _, _, _, _, rfl, _⟩ := h; rfl) | (obtain ⟨_, _, _, _, _, _, _, _, _, _, _, _, _, _, _, _, _, rfl, _⟩ := h; rfl) | (obtain ⟨_, _, _, _, _, _, _, _, _, _, _, _, _, _, _, _, _, _, rfl, _⟩ := h; rfl) | (obtain ⟨_, _, _, _, _, _, _, _, _, _, _, _, _, _, _, _, _, _, _, rfl, _⟩ := h; rfl) | (obtain ⟨_, _, _, _, _, _, _, _, _, _, _, _, _, _, _, _, _, _, _, _, rfl, _⟩ := h; rfl) | (obtain ⟨_, _, _, _, _, _, _, _, _, _, _, _, _, _, _, _, _, _, _, _, _, rfl, _⟩ := h; rfl) | (obtain ⟨_, _, _, _, _, _, _, _, _, _, _, _, _, _, _, _, _, _, _, _, _, _, rfl, _⟩ := h; rfl) | (obtain ⟨_, _, _, _, _, _, _, _, _, _, _, _, _, _, _, _, _, _, _, _, _, _, _, rfl, _⟩ := h; rfl) | (obtain ⟨_, _, _, _, _, _, _, _, _, _, _, _, _, _, _, _, _, _, _, _, _, _, _, _, rfl, _⟩ := h; rfl) | (obtain ⟨_, _, _, _, _, _, _, _, _, _, _, _, _, _, _, _, _, _, _, _, _, _, _, _, _, rfl, _⟩ := h; rfl) | (obtain ⟨_, _, _, _, _, _, _, _, _, _, _, _, _, _, _, _, _, _, _, _, _, _, _, _, _, _, rfl, _⟩ := h; rfl) | (obtain ⟨_, _, _, _, _, _, _, _, _, _, _, _, _, _, _, _, _, _, _, _, _, _, _, _, _, _, _, rfl, _⟩ := h; rfl) | (obtain ⟨_, _, _, _, _, _, _, _, _, _, _, _, _, _, _, _, _, _, _, _, _, _, _, _, _, _, _, _, rfl, _⟩ := h; rfl) | (obtain ⟨_, _, _, _, _, _, _, _, _, _, _, _, _, _, _, _, _, _, _, _, _, _, _, _, _, _, _, _, _, rfl, _⟩ := h; rfl) | (obtain ⟨_, _, _, _, _, _, _, _, _, _, _, _, _, _, _, _, _, _, _, _, _, _, _, _, _, _, _, _, _, _, rfl, _⟩ := h; rfl) | (obtain ⟨_, _, _, _, _, _, _, _, _, _, _, _, _, _, _, _, _, _, _, _, _, _, _, _, _, _, _, _, _, _, _, rfl, _⟩ := h; rfl)) (fun cdv A' outer s H vs Q E hr h => ⟨t__law_run K A, ?_, rd__law_run h⟩)
  unfold t__law_run
  exact (pss_cons (ps_set (i := 4) sc__law_run.nd rfl (Or.inl rfl) (pe_lst (pa_cons (pe_tup (pa_cons pe_str pa_nil)) (pa_cons (pe_tup (pa_cons pe_str pa_nil)) pa_nil))))
  (pss_cons (ps_for PassesOwn.never rfl (i_list (pi_list (pe_op o_add (pe_op o_add (pn 2) (pe_op o_mul (pe_lst (pa_cons pe_int pa_nil)) pe_int)) (pe_op o_mul (pe_lst (pa_cons pe_int pa_nil)) pe_int)))) (pg_name (i := 5) sc__law_run.nd rfl (Or.inl rfl))
    (pss_one (p_if (m_test (pt_cmpR (o_eq hr.units) (pe_ix ix_seq (pn 4) (pn 5) (fun _ _ => rfl)) (pe_tup (pa_cons pe_str pa_nil)) (nomark _)))
    (pss_one (ps_asg (pe_call (ok__law_told T) (hr.mono (by decide)) (by rfl) T.m__law_told T.F__law_told.kp T.b__law_told .nil pass0 (pa_cons (pe_ix ix_seq (pn 0) (pn 5) (fun _ _ => rfl)) (pa_cons (pn 3) (pa_cons (pe_ix ix_seq (pe_ix ix_seq (pn 1) (pn 5) (fun _ _ => rfl)) pe_int (fun _ _ => rfl)) (pa_cons (pe_ix ix_seq (pe_ix ix_seq (pn 1) (pn 5) (fun _ _ => rfl)) pe_int (fun _ _ => rfl)) pa_nil))))) (pg_sub (pn 4) (pn 5) set_list)))
    pss_nil)))
  (pss_one (ps_ret (pn 4)))))
theorem ok__law_apart (T : Top K mg A W) : FnG P w K mg base 9 W.a__law_apart W.d__law_apart ["_law_box"] (sp__law_apart K A) := by
  refine okG T.F__law_apart sc__law_apart (fun vs H Q E h => by first | (obtain ⟨rfl, _⟩ := h; rfl) | (obtain ⟨_, rfl, _⟩ := h; rfl) | (obtain ⟨_, _, rfl, _⟩ := h; rfl) | (obtain ⟨_, _, _, rfl, _⟩ := h; rfl) | (obtain ⟨_, _, _, _, rfl, _⟩ := h; rfl) | (obtain ⟨_, _, _, _, _, rfl, _⟩ := h; rfl) | (obtain ⟨_, _, _, _, _, _, rfl, _⟩ := h; rfl) | (obtain ⟨_, _, _, _, _, _, _, rfl, _⟩ := h; rfl) | (obtain ⟨_, _, _, _, _, _, _, _, rfl, _⟩ := h; rfl) | (obtain ⟨_, _, _, _, _, _, _, _, _, rfl, _⟩ := h; rfl) | (obtain ⟨_, _, _, _, _, _, _, _, _, _, rfl, _⟩ := h; rfl) | (obtain ⟨_, _, _, _, _, _, _, _, _, _, _, rfl, _⟩ := h; rfl) | (obtain ⟨_, _, _, _, _, _, _, _, _, _, _, _, rfl, _⟩ := h; rfl) | (obtain ⟨_, _, _, _, _, _, _, _, _, _, _, _, _, rfl, _⟩ := h; rfl) | (obtain ⟨_, _, _, _, _, _, _, _, _, _, _, _, _, _, rfl, _⟩ := h; rfl) | (obtain ⟨_, _, _, _, _, _, _, _, _, _, _, _, _, _, _, rfl, _⟩ := h; rfl) | (obtain ⟨_, _, _, _, _, _, _, _, _, _, _, _, _, _, _, _, rfl, _⟩ := h; rfl) | (obtain ⟨_, _, _, _, _, _, _, _, _, _, _, _, _, _, _, _, _, rfl, _⟩ := h; rfl) | (obtain ⟨_, _, _, _, _, _, _, _, _, _, _, _, _, _, _, _, _, _, rfl, _⟩ := h; rfl) | (obtain ⟨_, _, _, _, _, _, _, _, _, _, _, _, _, _, _, _, _, _, _, rfl, _⟩ := h; rfl) | (obtain ⟨_, _, _, _, _, _, _, _, _, _, _, _, _, _, _, _, _, _, _, _, rfl, _⟩ := h; rfl) | (obtain ⟨_, _, _, _, _, _, _, _, _, _, _, _, _, _, _, _, _, _, _, _, _, rfl, _⟩ := h; rfl) | (obtain ⟨_, _, _, _, _, _, _, _, _, _, _, _, _, _, _, _, _, _, _, _, _, _, rfl, _⟩ := h; rfl) | (obtain ⟨_, _, _, _, _, _, _, _, _, _, _, _, _, _, _, _, _, _, _, _, _, _, _, rfl, _⟩ := h; rfl) | (obtain ⟨_, _, _, _, _, _, _, _, _, _, _, _, _, _, _, _, _, _, _, _, _, _, _, _, rfl, _⟩ := h; rfl) | (obtain ⟨_, _, _, _, _, _, _, _, _, _, _, _, _, _, _, _, _, _, _, _, _, _, _, _, _, rfl, _⟩ := h; rfl) | (obtain ⟨_, _, _, _, _, _, _, _, _, _, _, _, _, _, _, _, _, _, _, _, _, _, _, _, _, _, rfl, _⟩ := h; rfl) | (obtain ⟨_, _, _, _, _, _, _, _, _, _, _, _, _, _, _, _, _, _, _, _, _, _, _, _, _, _, _, rfl, _⟩ := h; rfl) | (obtain ⟨_, _, _, _, _, _, _, _, _, _, _, _, _, _, _, _, _, _, _, _, _, _, _, _, _, _, _, _, rfl, _⟩ := h; rfl) | (obtain ⟨_, _, _, _, _, _, _, _, _, _, _, _, _, _, _, _, _, _, _, _, _, _, _, _, _, _, _, _, _, rfl, _⟩ := h; rfl) | (obtain ⟨_, _, _, _, _, _, _, _, _, _, _, _, _, _, _, _, _, _, _, _, _, _, _, _, _, _, _, _, _, _, rfl, _⟩ := h; rfl) | (obtain ⟨_, _, _, _, _, _, _, _, _, _, _, _, _, _, _, _, _, _, _, _, _, _, _, _, _, _, _, _, _, _, _, rfl, _⟩ := h; rfl)) (fun cdv A' outer s H vs Q E hr hg h => ⟨t__law_apart K A, ?_, rd__law_apart h⟩)
  unfold t__law_apart
  exact (pss_cons (ps_set (i := 1) sc__law_apart.nd rfl (Or.inl rfl) (pe_lst (pa_cons (pe_call (ok__law_some_work T) (hr.mono (by decide)) (by rfl) T.m__law_some_work T.F__law_some_work.kp T.b__law_some_work .nil pass0 (pa_cons (pn 0) pa_nil)) (pa_cons (pe_call (ok__law_some_work T) (hr.mono (by decide)) (by rfl) T.m__law_some_work T.F__law_some_work.kp T.b__law_some_work .nil pass0 (pa_cons (pn 0) pa_nil)) pa_nil))))
  (pss_cons (ps_setLc (i := 2) (own := [("_law_k", 4)]) (g := (gName 4)) (tt := tYes) rfl sc__law_apart.nd rfl rfl (sw_true rfl rfl rfl (by decide +kernel)) (i_rng1 (pi_range1 (by rfl) T.n_range (pa_cons pe_int pa_nil))) (blkOk_by (own := [("_law_k", 4)]) (N := nm__law_apart) (sc := defScope s__law_apart) (by decide +kernel)) (fun _ _ _ _ _ => (pg_name (i := 4) sc__law_apart.nd rfl (Or.inl rfl))) (fun _ _ _ _ _ => pts_nil) (fun _ _ _ _ _ => (pe_call (ok__law_draw T) (hr.mono (by decide)) (by rfl) T.m__law_draw T.F__law_draw.kp T.b__law_draw .nil pass0 (pa_cons (pn 0) (pa_cons pe_int pa_nil)))))
  (pss_cons (ps_set (i := 3) sc__law_apart.nd rfl (Or.inl rfl) (pe_lst pa_nil))
  (pss_cons (ps_for PassesOwn.never rfl (i_rng1 (pi_range1 (by rfl) T.n_range (pa_cons pe_int pa_nil))) (pg_name (i := 4) sc__law_apart.nd rfl (Or.inl rfl))
    (pss_cons (ps_set (i := 5) sc__law_apart.nd rfl (Or.inl rfl) (pe_lst (pa_cons pe_non (pa_cons pe_non pa_nil))))
  (p_cut (p_if (m_test (pt_cmpR o_notN (pe_ix ix_seq (pe_ix ix_seq (pn 1) (pn 4) (fun _ _ => rfl)) pe_int (fun _ _ => rfl)) pe_non (nomark _)))
    (pss_one (ps_asg (pe_op o_add (pe_op o_mul pe_int (pn 4)) pe_int) (pg_sub (pn 5) pe_int set_list)))
    pss_nil)
  (p_cut (p_if (m_test (pt_cmpR o_notN (pe_ix ix_seq (pe_ix ix_seq (pn 1) (pn 4) (fun _ _ => rfl)) pe_int (fun _ _ => rfl)) pe_non (nomark _)))
    (pss_one (ps_asg (pe_op o_add (pe_op o_mul pe_int (pn 4)) pe_int) (pg_sub (pn 5) pe_int set_list)))
    pss_nil)
  (pss_one (ps_expr (pe_bm PySem.F.plainAttrs_list PySem.F.slot_list_append PySem.F.type_list_append mt_append (pn 3) (pa_cons (pn 5) pa_nil))))))))
  (pss_cons (ps_setLc (i := 6) (own := [("_law_k", 4)]) (g := (gName 4)) (tt := tYes) rfl sc__law_apart.nd rfl rfl (sw_true rfl rfl rfl (by decide +kernel)) (i_rng1 (pi_range1 (by rfl) T.n_range (pa_cons pe_int pa_nil))) (blkOk_by (own := [("_law_k", 4)]) (N := nm__law_apart) (sc := defScope s__law_apart) (by decide +kernel)) (fun _ _ _ _ _ => (pg_name (i := 4) sc__law_apart.nd rfl (Or.inl rfl))) (fun _ _ _ _ _ => pts_nil) (fun _ _ _ _ _ => (pe_call (ok__law_draw T) (hr.mono (by decide)) (by rfl) T.m__law_draw T.F__law_draw.kp T.b__law_draw .nil pass0 (pa_cons (pn 0) (pa_cons pe_int pa_nil)))))
  (pss_cons (ps_setLc (i := 7) (own := [("_law_row", 5)]) (g := (gName 5)) (tt := tYes) rfl sc__law_apart.nd rfl rfl (sw_true rfl rfl rfl (by decide +kernel)) (i_list (pi_list (pn 1))) (blkOk_by (own := [("_law_row", 5)]) (N := nm__law_apart) (sc := defScope s__law_apart) (by decide +kernel)) (fun _ _ _ _ _ => (pg_name (i := 5) sc__law_apart.nd rfl (Or.inl rfl))) (fun _ _ _ _ _ => pts_nil) (fun _ _ _ _ _ => (pe_make T.K_Work (ok_Work___init__ T) (hr.mono (by decide)) (by rfl) T.m_Work T.b_Work___init__ .nil pass0 (pa_cons (pe_ix ix_seq (pn 5) pe_int (fun _ _ => rfl)) (pa_cons (pe_ix ix_seq (pn 5) pe_int (fun _ _ => rfl)) (pa_cons (pe_ix ix_seq (pn 5) pe_int (fun _ _ => rfl)) (pa_cons (pe_ix ix_seq (pn 5) pe_int (fun _ _ => rfl)) pa_nil)))))))
  (pss_cons (ps_setLc (i := 8) (own := [("_law_row", 5)]) (g := (gName 5)) (tt := tYes) rfl sc__law_apart.nd rfl rfl (sw_true rfl rfl rfl (by decide +kernel)) (i_list (pi_list (pn 1))) (blkOk_by (own := [("_law_row", 5)]) (N := nm__law_apart) (sc := defScope s__law_apart) (by decide +kernel)) (fun _ _ _ _ _ => (pg_name (i := 5) sc__law_apart.nd rfl (Or.inl rfl))) (fun _ _ _ _ _ => pts_nil) (fun _ _ _ _ _ => (pe_make T.K_Work (ok_Work___init__ T) (hr.mono (by decide)) (by rfl) T.m_Work T.b_Work___init__ .nil pass0 (pa_cons (pe_ix ix_seq (pn 5) pe_int (fun _ _ => rfl)) (pa_cons (pe_ix ix_seq (pn 5) pe_int (fun _ _ => rfl)) (pa_cons (pe_ix ix_seq (pn 5) pe_int (fun _ _ => rfl)) (pa_cons (pe_ix ix_seq (pn 5) pe_int (fun _ _ => rfl)) pa_nil)))))))
  (pss_cons (ps_set (i := 9) sc__law_apart.nd rfl (Or.inl rfl) (pe_callTy c_list (by rfl) T.n_list (by decide +kernel) (pa_cons (pn 2) pa_nil)))
  (pss_cons (ps_set (i := 10) sc__law_apart.nd rfl (Or.inl rfl) (pe_call (ok__law_run T) (hr.mono (by decide)) (by rfl) T.m__law_run T.F__law_run.kp T.b__law_run .nil pass0 (pa_cons (pn 7) (pa_cons (pn 3) (pa_cons (pn 6) (pa_cons (pn 2) pa_nil))))))
  (pss_one (ps_ret (pe_callG (ok__law_same T) hg (hr.mono (by decide)) (by rfl) T.m__law_same T.F__law_same.kp T.b__law_same .nil (pa_cons (pe_lst (pa_cons (pn 10) (pa_cons (pn 2) pa_nil))) (pa_cons (pe_lst (pa_cons (pe_call (ok__law_run T) (hr.mono (by decide)) (by rfl) T.m__law_run T.F__law_run.kp T.b__law_run .nil pass0 (pa_cons (pn 8) (pa_cons (pn 3) (pa_cons (pe_lst pa_nil) (pa_cons (pn 9) pa_nil))))) (pa_cons (pn 9) pa_nil))) pa_nil))))))))))))))
theorem ok__law_lost (T : Top K mg A W) : FnG P w K mg base 9 W.a__law_lost W.d__law_lost ["_law_box"] (sp__law_lost K A) := by
  refine okG T.F__law_lost sc__law_lost (fun vs H Q E h => by first | (obtain ⟨rfl, _⟩ := h; rfl) | (obtain ⟨_, rfl, _⟩ := h; rfl) | (obtain ⟨_, _, rfl, _⟩ := h; rfl) | (obtain ⟨_, _, _, rfl, _⟩ := h; rfl) | (obtain ⟨_, _, _, _, rfl, _⟩ := h; rfl) | (obtain ⟨_, _, _, _, _, rfl, _⟩ := h; rfl) | (obtain ⟨_, _, _, _, _, _, rfl, _⟩ := h; rfl) | (obtain ⟨_, _, _, _, _, _, _, rfl, _⟩ := h; rfl) | (obtain ⟨_, _, _, _, _, _, _, _, rfl, _⟩ := h; rfl) | (obtain ⟨_, _, _, _, _, _, _, _, _, rfl, _⟩ := h; rfl) | (obtain ⟨_, _, _, _, _, _, _, _, _, _, rfl, _⟩ := h; rfl) | (obtain ⟨_, _, _, _, _, _, _, _, _, _, _, rfl, _⟩ := h; rfl) | (obtain ⟨_, _, _, _, _, _, _, _, _, _, _, _, rfl, _⟩ := h; rfl) | (obtain ⟨_, _, _, _, _, _, _, _, _, _, _, _, _, rfl, _⟩ := h; rfl) | (obtain ⟨_, _, _, _, _, _, _, _, _, _, _, _, _, _, rfl, _⟩ := h; rfl) | (obtain ⟨_, _, _, _, _, _, _, _, _, _, _, _, _, _, _, rfl, _⟩ := h; rfl) | (obtain ⟨_, _, _, _, _, _, _, _, _, _, _, _, _, _, _, _, rfl, _⟩ := h; rfl) | (obtain ⟨_, _, _, _, _, _, _, _, _, _, _, _, _, _, _, _, _, rfl, _⟩ := h; rfl) | (obtain ⟨_, _, _, _, _, _, _, _, _, _, _, _, _, _, _, _, _, _, rfl, _⟩ := h; rfl) | (obtain ⟨_, _, _, _, _, _, _, _, _, _, _, _, _, _, _, _, _, _, _, rfl, _⟩ := h; rfl) | (obtain ⟨_, _, _, _, _, _, _, _, _, _, _, _, _, _, _, _, _, _, _, _, rfl, _⟩ := h; rfl) | (obtain ⟨_, _, _, _, _, _, _, _, _, _, _, _, _, _, _, _, _, _, _, _, _, rfl, _⟩ := h; rfl) | (obtain ⟨_, _, _, _, _, _, _, _, _, _, _, _, _, _, _, _, _, _, _, _, _, _, rfl, _⟩ := h; rfl) | (obtain ⟨_, _, _, _, _, _, _, _, _, _, _, _, _, _, _, _, _, _, _, _, _, _, _, rfl, _⟩ := h; rfl) | (obtain ⟨_, _, _, _, _, _, _, _, _, _, _, _, _, _, _, _, _, _, _, _, _, _, _, _, rfl, _⟩ := h; rfl) | (obtain ⟨_, _, _, _, _, _, _, _, _, _, _, _, _, _, _, _, _, _, _, _, _, _, _, _, _, rfl, _⟩ := h; rfl) | (obtain ⟨_, _, _, _, _, _, _, _, _, _, _, _, _, _, _, _, _, _, _, _, _, _, _, _, _, _, rfl, _⟩ := h; rfl) | (obtain ⟨_, _, _, _, _, _, _, _, _, _, _, _, _, _, _, _, _, _, _, _, _, _, _, _, _, _, _, rfl, _⟩ := h; rfl) | (obtain ⟨_, _, _, _, _, _, _, _, _, _, _, _, _, _, _, _, _, _, _, _, _, _, _, _, _, _, _, _, rfl, _⟩ := h; rfl) | (obtain ⟨_, _, _, _, _, _, _, _, _, _, _, _, _, _, _, _, _, _, _, _, _, _, _, _, _, _, _, _, _, rfl, _⟩ := h; rfl) | (obtain ⟨_, _, _, _, _, _, _, _, _, _, _, _, _, _, _, _, _, _, _, _, _, _, _, _, _, _, _, _, _, _, rfl, _⟩ := h; rfl) | (obtain ⟨_, _, _, _, _, _, _, _, _, _, _, _, _, _, _, _, _, _, _, _, _, _, _, _, _, _, _, _, _, _, _, rfl, _⟩ := h; rfl)) (fun cdv A' outer s H vs Q E hr hg h => ⟨t__law_lost K A, ?_, rd__law_lost h⟩)
  unfold t__law_lost
  exact (pss_cons (ps_set (i := 1) sc__law_lost.nd rfl (Or.inl rfl) (pe_ix ix_seq (pe_lst (pa_cons pe_int (pa_cons pe_int (pa_cons pe_int pa_nil)))) (pe_call (ok__law_draw T) (hr.mono (by decide)) (by rfl) T.m__law_draw T.F__law_draw.kp T.b__law_draw .nil pass0 (pa_cons (pn 0) (pa_cons pe_int pa_nil))) (fun _ _ => rfl)))
  (pss_cons (ps_set (i := 2) sc__law_lost.nd rfl (Or.inl rfl) (pe_cmpR (o_eq hr.units) (pe_call (ok__law_draw T) (hr.mono (by decide)) (by rfl) T.m__law_draw T.F__law_draw.kp T.b__law_draw .nil pass0 (pa_cons (pn 0) (pa_cons pe_int pa_nil))) pe_int (nomark _)))
  (pss_cons (ps_set (i := 3) sc__law_lost.nd rfl (Or.inl rfl) (pe_op o_add pe_int (pe_op o_mod (pe_callTy c_int (by rfl) T.n_int (by decide +kernel) (pa_cons (pe_call (ok__law_draw T) (hr.mono (by decide)) (by rfl) T.m__law_draw T.F__law_draw.kp T.b__law_draw .nil pass0 (pa_cons (pn 0) (pa_cons pe_int pa_nil))) pa_nil)) (pe_op o_sub (pe_op o_mul pe_int (pn 1)) pe_int))))
  (pss_cons (ps_set (i := 4) sc__law_lost.nd rfl (Or.inr rfl) (pe_lst (pa_cons (pe_tup (pa_cons (pn 1) (pa_cons (pn 2) (pa_cons pe_int (pa_cons (pn 3) (pa_cons (pe_cmpR (o_eq hr.units) (pe_call (ok__law_draw T) (hr.mono (by decide)) (by rfl) T.m__law_draw T.F__law_draw.kp T.b__law_draw .nil pass0 (pa_cons (pn 0) (pa_cons pe_int pa_nil))) pe_int (nomark _)) pa_nil)))))) (pa_cons (pe_tup (pa_cons (pn 1) (pa_cons (pn 2) (pa_cons (pn 3) (pa_cons (pe_op o_sub (pe_op o_mul pe_int (pn 1)) (pn 3)) (pa_cons (pe_cmpR (o_eq hr.units) (pe_call (ok__law_draw T) (hr.mono (by decide)) (by rfl) T.m__law_draw T.F__law_draw.kp T.b__law_draw .nil pass0 (pa_cons (pn 0) (pa_cons pe_int pa_nil))) pe_int (nomark _)) pa_nil)))))) pa_nil))))
  (pss_cons (ps_set (i := 5) sc__law_lost.nd rfl (Or.inl rfl) (pe_call (ok__law_draw T) (hr.mono (by decide)) (by rfl) T.m__law_draw T.F__law_draw.kp T.b__law_draw .nil pass0 (pa_cons (pn 0) (pa_cons pe_int pa_nil))))
  (pss_cons (ps_set (i := 4) sc__law_lost.nd rfl (Or.inr rfl) (pe_lst (pa_cons (pe_ix ix_seq (pn 4) (pn 5) (fun _ _ => rfl)) (pa_cons (pe_ix ix_seq (pn 4) (pe_op o_sub pe_int (pn 5)) (fun _ _ => rfl)) pa_nil))))
  (pss_cons (ps_setLc (i := 6) (own := [("_law_k", 11)]) (g := (gName 11)) (tt := tYes) rfl sc__law_lost.nd rfl rfl (sw_true rfl rfl rfl (by decide +kernel)) (i_rng1 (pi_range1 (by rfl) T.n_range (pa_cons pe_int pa_nil))) (blkOk_by (own := [("_law_k", 11)]) (N := nm__law_lost) (sc := defScope s__law_lost) (by decide +kernel)) (fun _ _ _ _ _ => (pg_name (i := 11) sc__law_lost.nd rfl (Or.inl rfl))) (fun _ _ _ _ _ => pts_nil) (fun _ _ _ _ _ => (pe_call (ok__law_draw T) (hr.mono (by decide)) (by rfl) T.m__law_draw T.F__law_draw.kp T.b__law_draw .nil pass0 (pa_cons (pn 0) (pa_cons pe_int pa_nil)))))
  (pss_cons (ps_set (i := 7) sc__law_lost.nd rfl (Or.inr rfl) (pe_lst (pa_cons (pe_call (ok__law_some T) (hr.mono (by decide)) (by rfl) T.m__law_some T.F__law_some.kp T.b__law_some .nil pass0 (pa_cons (pn 0) (pa_cons (pe_ix ix_seq (pn 4) pe_int (fun _ _ => rfl)) pa_nil))) (pa_cons (pe_call (ok__law_some T) (hr.mono (by decide)) (by rfl) T.m__law_some T.F__law_some.kp T.b__law_some .nil pass0 (pa_cons (pn 0) (pa_cons (pe_ix ix_seq (pn 4) pe_int (fun _ _ => rfl)) pa_nil))) pa_nil))))
  (pss_cons (ps_set (i := 8) sc__law_lost.nd rfl (Or.inl rfl) (pe_op o_add (pe_op o_add (pe_slice o_sl (pn 6) po_none (p_some pe_int)) (pe_call (ok__law_with T) (hr.mono (by decide)) (by rfl) T.m__law_with T.F__law_with.kp T.b__law_with .nil pass0 (pa_cons (pe_slice o_sl (pn 6) (p_some pe_int) (p_some (pe_op o_add pe_int (pn 1)))) (pa_cons (pe_ix ix_seq (pn 4) pe_int (fun _ _ => rfl)) (pa_cons (pe_ix ix_seq (pn 7) pe_int (fun _ _ => rfl)) pa_nil))))) (pe_slice o_sl (pn 6) (p_some (pe_op o_add pe_int (pn 1))) po_none)))
  (pss_cons (ps_setLc (i := 9) (own := [("_law_k", 11)]) (g := (gName 11)) (tt := tYes) rfl sc__law_lost.nd rfl rfl (sw_true rfl rfl rfl (by decide +kernel)) (i_rng1 (pi_range1 (by rfl) T.n_range (pa_cons pe_int pa_nil))) (blkOk_by (own := [("_law_k", 11)]) (N := nm__law_lost) (sc := defScope s__law_lost) (by decide +kernel)) (fun _ _ _ _ _ => (pg_name (i := 11) sc__law_lost.nd rfl (Or.inl rfl))) (fun _ _ _ _ _ => pts_nil) (fun _ _ _ _ _ => (pe_make T.K_Work (ok_Work___init__ T) (hr.mono (by decide)) (by rfl) T.m_Work T.b_Work___init__ .nil pass0 (pa_cons pe_str (pa_cons pe_non (pa_cons (pe_ix ix_seq (pn 4) (pn 11) (fun _ _ => rfl)) (pa_cons (pe_ix ix_seq (pn 7) (pn 11) (fun _ _ => rfl)) pa_nil)))))))
  (pss_cons (ps_set (i := 10) sc__law_lost.nd rfl (Or.inl rfl) (pe_call (ok__law_run T) (hr.mono (by decide)) (by rfl) T.m__law_run T.F__law_run.kp T.b__law_run .nil pass0 (pa_cons (pn 9) (pa_cons (pe_lst (pa_cons (pe_lst (pa_cons pe_non (pa_cons pe_int pa_nil))) (pa_cons (pe_lst (pa_cons pe_non (pa_cons pe_int pa_nil))) pa_nil))) (pa_cons (pe_op o_add (pe_op o_mul (pe_lst (pa_cons pe_int pa_nil)) (pn 1)) (pe_op o_mul (pe_lst (pa_cons pe_int pa_nil)) pe_int)) (pa_cons (pn 6) pa_nil))))))
  (pss_one (ps_ret (pe_callG (ok__law_same T) hg (hr.mono (by decide)) (by rfl) T.m__law_same T.F__law_same.kp T.b__law_same .nil (pa_cons (pe_lst (pa_cons (pn 10) (pa_cons (pn 6) pa_nil))) (pa_cons (pe_lst (pa_cons (pe_lst (pa_cons (pe_tup (pa_cons pe_str (pa_cons pe_non pa_nil))) (pa_cons (pe_tup (pa_cons pe_str (pa_cons pe_non pa_nil))) pa_nil))) (pa_cons (pn 8) pa_nil))) pa_nil))))))))))))))))
theorem ok_law (T : Top K mg A W) : FnG P w K mg base 10 W.a_law W.d_law ["_law_script"] (sp_law K A) := by
  refine okG T.F_law sc_law (fun vs H Q E h => by first | (obtain ⟨rfl, _⟩ := h; rfl) | (obtain ⟨_, rfl, _⟩ := h; rfl) | (obtain ⟨_, _, rfl, _⟩ := h; rfl) | (obtain ⟨_, _, _, rfl, _⟩ := h; rfl) | (obtain ⟨_, _, _, _, rfl, _⟩ := h; rfl) | (obtain ⟨_, _, _, _, _, rfl, _⟩ := h; rfl) | (obtain ⟨_, _, _, _, _, _, rfl, _⟩ := h; rfl) | (obtain ⟨_, _, _, _, _, _, _, rfl, _⟩ := h; rfl) | (obtain ⟨_, _, _, _, _, _, _, _, rfl, _⟩ := h; rfl) | (obtain ⟨_, _, _, _, _, _, _, _, _, rfl, _⟩ := h; rfl) | (obtain ⟨_, _, _, _, _, _, _, _, _, _, rfl, _⟩ := h; rfl) | (obtain ⟨_, _, _, _, _, _, _, _, _, _, _, rfl, _⟩ := h; rfl) | (obtain ⟨_, _, _, _, _, _, _, _, _, _, _, _, rfl, _⟩ := h; rfl) | (obtain ⟨_, _, _, _, _, _, _, _, _, _, _, _, _, rfl, _⟩ := h; rfl) | (obtain ⟨_, _, _, _, _, _, _, _, _, _, _, _, _, _, rfl, _⟩ := h; rfl) | (obtain ⟨_, _, _, _, _, _, _, _, _, _, _, _, _, _, _, rfl, _⟩ := h; rfl) | (obtain ⟨_, _, _, _, _, _, _, _, _, _, _, _, _, _, _, _, rfl, _⟩ := h; rfl) | (obtain ⟨_, _, _, _, _, _, _, _, _, _, _, _, _, _, _, _, _, rfl, _⟩ := h; rfl) | (obtain ⟨_, _, _, _, _, _, _, _, _, _, _, _, _, _, _, _, _, _, rfl, _⟩ := h; rfl) | (obtain ⟨_, _, _, _, _, _, _, _, _, _, _, _, _, _, _, _, _, _, _, rfl, _⟩ := h; rfl) | (obtain ⟨_, _, _, _, _, _, _, _, _, _, _, _, _, _, _, _, _, _, _, _, rfl, _⟩ := h; rfl) | (obtain ⟨_, _, _, _, _, _, _, _, _, _, _, _, _, _, _, _, _, _, _, _, _, rfl, _⟩ := h; rfl) | (obtain ⟨_, _, _, _, _, _, _, _, _, _, _, _, _, _, _, _, _, _, _, _, _, _, rfl, _⟩ := h; rfl) | (obtain ⟨_, _, _, _, _, _, _, _, _, _, _, _, _, _, _, _, _, _, _, _, _, _, _, rfl, _⟩ := h; rfl) | (obtain ⟨_, _, _, _, _, _, _, _, _, _, _, _, _, _, _, _, _, _, _, _, _, _, _, _, rfl, _⟩ := h; rfl) | (obtain ⟨_, _, _, _, _, _, _, _, _, _, _, _, _, _, _, _, _, _, _, _, _, _, _, _, _, rfl, _⟩ := h; rfl) | (obtain ⟨_, _, _, _, _, _, _, _, _, _, _, _, _, _, _, _, _, _, _, _, _, _, _, _, _, _, rfl, _⟩ := h; rfl) | (obtain ⟨_, _, _, _, _, _, _, _, _, _, _, _, _, _, _, _, _, _, _, _, _, _, _, _, _, _, _, rfl, _⟩ := h; rfl) | (obtain ⟨_, _, _, _, _, _, _, _, _, _, _, _, _, _, _, _, _, _, _, _, _, _, _, _, _, _, _, _, rfl, _⟩ := h; rfl) | (obtain ⟨_, _, _, _, _, _, _, _, _, _, _, _, _, _, _, _, _, _, _, _, _, _, _, _, _, _, _, _, _, rfl, _⟩ := h; rfl) | (obtain ⟨_, _, _, _, _, _, _, _, _, _, _, _, _, _, _, _, _, _, _, _, _, _, _, _, _, _, _, _, _, _, rfl, _⟩ := h; rfl) | (obtain ⟨_, _, _, _, _, _, _, _, _, _, _, _, _, _, _, _, _, _, _, _, _, _, _, _, _, _, _, _, _, _, _, rfl, _⟩ := h; rfl)) (fun cdv A' outer s H vs Q E hr hg h => ⟨t_law K A, ?_, rd_law h⟩)
  unfold t_law
  exact (pss_cons (ps_set (i := 1) sc_law.nd rfl (Or.inl rfl) (pe_lst (pa_cons (pe_call (ok__law_digits T) (hr.mono (by decide)) (by rfl) T.m__law_digits T.F__law_digits.kp T.b__law_digits .nil pass0 (pa_cons (pn 0) (pa_cons pe_int (pa_cons pe_int pa_nil)))) (pa_cons pe_int pa_nil))))
  (pss_cons (ps_for PassesOwn.never rfl (i_rng1 (pi_range1 (by rfl) T.n_range (pa_cons pe_int pa_nil))) (pg_name (i := 2) sc_law.nd rfl (Or.inl rfl))
    (pss_one (p_if (PW.pt (pw_or (pt_not (p_truth (pe_callG (ok__law_apart T) hg (hr.mono (by decide)) (by rfl) T.m__law_apart T.F__law_apart.kp T.b__law_apart .nil (pa_cons (pn 1) pa_nil)) (by intro _; rfl))) (pw_or1 (pt_not (p_truth (pe_callG (ok__law_lost T) hg (hr.mono (by decide)) (by rfl) T.m__law_lost T.F__law_lost.kp T.b__law_lost .nil (pa_cons (pn 1) pa_nil)) (by intro _; rfl))))))
    (pss_one (ps_ret pe_bl))
    pss_nil)))
  (pss_one (ps_ret pe_bl))))
end
theorem all_mk {l : PySem.W.OpenLaw} {w : World} {K : PySem.W.Frag} {h : Heap} {mg : Str → Option Value} {fa : Addr} (X : K.In h) (G : h.Ns mainGlobals mg) (hfa : mg "law" = some (.ref fa))
    {C_OutOfRange C_Work : Addr}
    {f0 : Addr} {od0 an0 : Option Addr} {sl0 : Array (Option Value)} {oc0 kV0 dc0 pm0 cd0 ct0 : Value}
    (a0 : PySem.W.nsIn K mainGlobals "power" = some (some (.ref f0))) (l0 : K.lookup f0 = some ⟨oc0, od0, .func (PySem.W.fnOf "power" "power" (defArgs s_power) (defBody s_power) (defScope s_power) .none kV0 dc0 pm0 an0 cd0 ct0), sl0⟩) (c0 : PySem.W.codeIn K cd0 "power" = true) (k0 : PySem.W.keepIn K (.ref f0) = true)
    {f1 : Addr} {od1 an1 : Option Addr} {sl1 : Array (Option Value)} {oc1 kV1 dc1 pm1 cd1 ct1 : Value}
    (a1 : PySem.W.nsIn K mainGlobals "bounds" = some (some (.ref f1))) (l1 : K.lookup f1 = some ⟨oc1, od1, .func (PySem.W.fnOf "bounds" "bounds" (defArgs s_bounds) (defBody s_bounds) (defScope s_bounds) .none kV1 dc1 pm1 an1 cd1 ct1), sl1⟩) (c1 : PySem.W.codeIn K cd1 "bounds" = true) (k1 : PySem.W.keepIn K (.ref f1) = true)
    {f2 : Addr} {od2 an2 : Option Addr} {sl2 : Array (Option Value)} {oc2 kV2 dc2 pm2 cd2 ct2 : Value}
    (a2 : PySem.W.nsIn K mainGlobals "word_number" = some (some (.ref f2))) (l2 : K.lookup f2 = some ⟨oc2, od2, .func (PySem.W.fnOf "word_number" "word_number" (defArgs s_word_number) (defBody s_word_number) (defScope s_word_number) .none kV2 dc2 pm2 an2 cd2 ct2), sl2⟩) (c2 : PySem.W.codeIn K cd2 "word_number" = true) (k2 : PySem.W.keepIn K (.ref f2) = true)
    {f3 : Addr} {od3 an3 : Option Addr} {sl3 : Array (Option Value)} {oc3 kV3 dc3 pm3 cd3 ct3 : Value}
    (a3 : PySem.W.nsIn K mainGlobals "put_word_number" = some (some (.ref f3))) (l3 : K.lookup f3 = some ⟨oc3, od3, .func (PySem.W.fnOf "put_word_number" "put_word_number" (defArgs s_put_word_number) (defBody s_put_word_number) (defScope s_put_word_number) .none kV3 dc3 pm3 an3 cd3 ct3), sl3⟩) (c3 : PySem.W.codeIn K cd3 "put_word_number" = true) (k3 : PySem.W.keepIn K (.ref f3) = true)
    {f4 : Addr} {od4 an4 : Option Addr} {sl4 : Array (Option Value)} {oc4 kV4 dc4 pm4 cd4 ct4 : Value}
    (a4 : PySem.W.nsIn K mainGlobals "read_slot" = some (some (.ref f4))) (l4 : K.lookup f4 = some ⟨oc4, od4, .func (PySem.W.fnOf "read_slot" "read_slot" (defArgs s_read_slot) (defBody s_read_slot) (defScope s_read_slot) .none kV4 dc4 pm4 an4 cd4 ct4), sl4⟩) (c4 : PySem.W.codeIn K cd4 "read_slot" = true) (k4 : PySem.W.keepIn K (.ref f4) = true)
    {f5 : Addr} {od5 an5 : Option Addr} {sl5 : Array (Option Value)} {oc5 kV5 dc5 pm5 cd5 ct5 : Value}
    (a5 : PySem.W.nsIn K mainGlobals "write_slot" = some (some (.ref f5))) (l5 : K.lookup f5 = some ⟨oc5, od5, .func (PySem.W.fnOf "write_slot" "write_slot" (defArgs s_write_slot) (defBody s_write_slot) (defScope s_write_slot) .none kV5 dc5 pm5 an5 cd5 ct5), sl5⟩) (c5 : PySem.W.codeIn K cd5 "write_slot" = true) (k5 : PySem.W.keepIn K (.ref f5) = true)
    {f6 : Addr} {od6 an6 : Option Addr} {sl6 : Array (Option Value)} {oc6 kV6 dc6 pm6 cd6 ct6 : Value}
    (a6 : PySem.W.nsIn K mainGlobals "is_whole" = some (some (.ref f6))) (l6 : K.lookup f6 = some ⟨oc6, od6, .func (PySem.W.fnOf "is_whole" "is_whole" (defArgs s_is_whole) (defBody s_is_whole) (defScope s_is_whole) .none kV6 dc6 pm6 an6 cd6 ct6), sl6⟩) (c6 : PySem.W.codeIn K cd6 "is_whole" = true) (k6 : PySem.W.keepIn K (.ref f6) = true)
    {f7 : Addr} {od7 an7 : Option Addr} {sl7 : Array (Option Value)} {oc7 kV7 dc7 pm7 cd7 ct7 : Value}
    (a7 : PySem.W.findIn K (.ref C_Work) "__init__" = some (some (.ref f7))) (v7 : PySem.W.isFn K (.ref f7) = true) (l7 : K.lookup f7 = some ⟨oc7, od7, .func (PySem.W.fnOf "__init__" "Work.__init__" (defArgs s_Work___init__) (defBody s_Work___init__) (defScope s_Work___init__) .none kV7 dc7 pm7 an7 cd7 ct7), sl7⟩) (c7 : PySem.W.codeIn K cd7 "Work.__init__" = true) (k7 : PySem.W.keepIn K (.ref f7) = true)
    {f8 : Addr} {od8 an8 : Option Addr} {sl8 : Array (Option Value)} {oc8 kV8 dc8 pm8 cd8 ct8 : Value}
    (a8 : PySem.W.findIn K (.ref C_Work) "written" = some (some (.ref f8))) (v8 : PySem.W.isFn K (.ref f8) = true) (l8 : K.lookup f8 = some ⟨oc8, od8, .func (PySem.W.fnOf "written" "Work.written" (defArgs s_Work_written) (defBody s_Work_written) (defScope s_Work_written) .none kV8 dc8 pm8 an8 cd8 ct8), sl8⟩) (c8 : PySem.W.codeIn K cd8 "Work.written" = true) (k8 : PySem.W.keepIn K (.ref f8) = true)
    {f9 : Addr} {od9 an9 : Option Addr} {sl9 : Array (Option Value)} {oc9 kV9 dc9 pm9 cd9 ct9 : Value}
    (a9 : PySem.W.findIn K (.ref C_Work) "source_reads" = some (some (.ref f9))) (v9 : PySem.W.isFn K (.ref f9) = true) (l9 : K.lookup f9 = some ⟨oc9, od9, .func (PySem.W.fnOf "source_reads" "Work.source_reads" (defArgs s_Work_source_reads) (defBody s_Work_source_reads) (defScope s_Work_source_reads) .none kV9 dc9 pm9 an9 cd9 ct9), sl9⟩) (c9 : PySem.W.codeIn K cd9 "Work.source_reads" = true) (k9 : PySem.W.keepIn K (.ref f9) = true)
    {f10 : Addr} {od10 an10 : Option Addr} {sl10 : Array (Option Value)} {oc10 kV10 dc10 pm10 cd10 ct10 : Value}
    (a10 : PySem.W.findIn K (.ref C_Work) "target_reads" = some (some (.ref f10))) (v10 : PySem.W.isFn K (.ref f10) = true) (l10 : K.lookup f10 = some ⟨oc10, od10, .func (PySem.W.fnOf "target_reads" "Work.target_reads" (defArgs s_Work_target_reads) (defBody s_Work_target_reads) (defScope s_Work_target_reads) .none kV10 dc10 pm10 an10 cd10 ct10), sl10⟩) (c10 : PySem.W.codeIn K cd10 "Work.target_reads" = true) (k10 : PySem.W.keepIn K (.ref f10) = true)
    {f11 : Addr} {od11 an11 : Option Addr} {sl11 : Array (Option Value)} {oc11 kV11 dc11 pm11 cd11 ct11 : Value}
    (a11 : PySem.W.findIn K (.ref C_Work) "writes" = some (some (.ref f11))) (v11 : PySem.W.isFn K (.ref f11) = true) (l11 : K.lookup f11 = some ⟨oc11, od11, .func (PySem.W.fnOf "writes" "Work.writes" (defArgs s_Work_writes) (defBody s_Work_writes) (defScope s_Work_writes) .none kV11 dc11 pm11 an11 cd11 ct11), sl11⟩) (c11 : PySem.W.codeIn K cd11 "Work.writes" = true) (k11 : PySem.W.keepIn K (.ref f11) = true)
    {f12 : Addr} {od12 an12 : Option Addr} {sl12 : Array (Option Value)} {oc12 kV12 dc12 pm12 cd12 ct12 : Value}
    (a12 : PySem.W.findIn K (.ref C_Work) "reads" = some (some (.ref f12))) (v12 : PySem.W.isFn K (.ref f12) = true) (l12 : K.lookup f12 = some ⟨oc12, od12, .func (PySem.W.fnOf "reads" "Work.reads" (defArgs s_Work_reads) (defBody s_Work_reads) (defScope s_Work_reads) .none kV12 dc12 pm12 an12 cd12 ct12), sl12⟩) (c12 : PySem.W.codeIn K cd12 "Work.reads" = true) (k12 : PySem.W.keepIn K (.ref f12) = true)
    {f13 : Addr} {od13 an13 : Option Addr} {sl13 : Array (Option Value)} {oc13 kV13 dc13 pm13 cd13 ct13 : Value}
    (a13 : PySem.W.findIn K (.ref C_Work) "total" = some (some (.ref f13))) (v13 : PySem.W.isFn K (.ref f13) = true) (l13 : K.lookup f13 = some ⟨oc13, od13, .func (PySem.W.fnOf "total" "Work.total" (defArgs s_Work_total) (defBody s_Work_total) (defScope s_Work_total) .none kV13 dc13 pm13 an13 cd13 ct13), sl13⟩) (c13 : PySem.W.codeIn K cd13 "Work.total" = true) (k13 : PySem.W.keepIn K (.ref f13) = true)
    {f14 : Addr} {od14 an14 : Option Addr} {sl14 : Array (Option Value)} {oc14 kV14 dc14 pm14 cd14 ct14 : Value}
    (a14 : PySem.W.findIn K (.ref C_Work) "read_source" = some (some (.ref f14))) (v14 : PySem.W.isFn K (.ref f14) = true) (l14 : K.lookup f14 = some ⟨oc14, od14, .func (PySem.W.fnOf "read_source" "Work.read_source" (defArgs s_Work_read_source) (defBody s_Work_read_source) (defScope s_Work_read_source) .none kV14 dc14 pm14 an14 cd14 ct14), sl14⟩) (c14 : PySem.W.codeIn K cd14 "Work.read_source" = true) (k14 : PySem.W.keepIn K (.ref f14) = true)
    {f15 : Addr} {od15 an15 : Option Addr} {sl15 : Array (Option Value)} {oc15 kV15 dc15 pm15 cd15 ct15 : Value}
    (a15 : PySem.W.findIn K (.ref C_Work) "make_new" = some (some (.ref f15))) (v15 : PySem.W.isFn K (.ref f15) = true) (l15 : K.lookup f15 = some ⟨oc15, od15, .func (PySem.W.fnOf "make_new" "Work.make_new" (defArgs s_Work_make_new) (defBody s_Work_make_new) (defScope s_Work_make_new) .none kV15 dc15 pm15 an15 cd15 ct15), sl15⟩) (c15 : PySem.W.codeIn K cd15 "Work.make_new" = true) (k15 : PySem.W.keepIn K (.ref f15) = true)
    {f16 : Addr} {od16 an16 : Option Addr} {sl16 : Array (Option Value)} {oc16 kV16 dc16 pm16 cd16 ct16 : Value}
    (a16 : PySem.W.findIn K (.ref C_Work) "target_place" = some (some (.ref f16))) (v16 : PySem.W.isFn K (.ref f16) = true) (l16 : K.lookup f16 = some ⟨oc16, od16, .func (PySem.W.fnOf "target_place" "Work.target_place" (defArgs s_Work_target_place) (defBody s_Work_target_place) (defScope s_Work_target_place) .none kV16 dc16 pm16 an16 cd16 ct16), sl16⟩) (c16 : PySem.W.codeIn K cd16 "Work.target_place" = true) (k16 : PySem.W.keepIn K (.ref f16) = true)
    {f17 : Addr} {od17 an17 : Option Addr} {sl17 : Array (Option Value)} {oc17 kV17 dc17 pm17 cd17 ct17 : Value}
    (a17 : PySem.W.findIn K (.ref C_Work) "step" = some (some (.ref f17))) (v17 : PySem.W.isFn K (.ref f17) = true) (l17 : K.lookup f17 = some ⟨oc17, od17, .func (PySem.W.fnOf "step" "Work.step" (defArgs s_Work_step) (defBody s_Work_step) (defScope s_Work_step) .none kV17 dc17 pm17 an17 cd17 ct17), sl17⟩) (c17 : PySem.W.codeIn K cd17 "Work.step" = true) (k17 : PySem.W.keepIn K (.ref f17) = true)
    {f18 : Addr} {od18 an18 : Option Addr} {sl18 : Array (Option Value)} {oc18 kV18 dc18 pm18 cd18 ct18 : Value}
    (a18 : PySem.W.findIn K (.ref C_Work) "write" = some (some (.ref f18))) (v18 : PySem.W.isFn K (.ref f18) = true) (l18 : K.lookup f18 = some ⟨oc18, od18, .func (PySem.W.fnOf "write" "Work.write" (defArgs s_Work_write) (defBody s_Work_write) (defScope s_Work_write) .none kV18 dc18 pm18 an18 cd18 ct18), sl18⟩) (c18 : PySem.W.codeIn K cd18 "Work.write" = true) (k18 : PySem.W.keepIn K (.ref f18) = true)
    {f19 : Addr} {od19 an19 : Option Addr} {sl19 : Array (Option Value)} {oc19 kV19 dc19 pm19 cd19 ct19 : Value}
    (a19 : PySem.W.nsIn K mainGlobals "_law_cell" = some (some (.ref f19))) (l19 : K.lookup f19 = some ⟨oc19, od19, .func (PySem.W.fnOf "_law_cell" "_law_cell" (defArgs s__law_cell) (defBody s__law_cell) (defScope s__law_cell) .none kV19 dc19 pm19 an19 cd19 ct19), sl19⟩) (c19 : PySem.W.codeIn K cd19 "_law_cell" = true) (k19 : PySem.W.keepIn K (.ref f19) = true)
    {f20 : Addr} {od20 an20 : Option Addr} {sl20 : Array (Option Value)} {oc20 kV20 dc20 pm20 cd20 ct20 : Value}
    (a20 : PySem.W.nsIn K mainGlobals "_law_digits" = some (some (.ref f20))) (l20 : K.lookup f20 = some ⟨oc20, od20, .func (PySem.W.fnOf "_law_digits" "_law_digits" (defArgs s__law_digits) (defBody s__law_digits) (defScope s__law_digits) .none kV20 dc20 pm20 an20 cd20 ct20), sl20⟩) (c20 : PySem.W.codeIn K cd20 "_law_digits" = true) (k20 : PySem.W.keepIn K (.ref f20) = true)
    {f21 : Addr} {od21 an21 : Option Addr} {sl21 : Array (Option Value)} {oc21 kV21 dc21 pm21 cd21 ct21 : Value}
    (a21 : PySem.W.nsIn K mainGlobals "_law_draw" = some (some (.ref f21))) (l21 : K.lookup f21 = some ⟨oc21, od21, .func (PySem.W.fnOf "_law_draw" "_law_draw" (defArgs s__law_draw) (defBody s__law_draw) (defScope s__law_draw) .none kV21 dc21 pm21 an21 cd21 ct21), sl21⟩) (c21 : PySem.W.codeIn K cd21 "_law_draw" = true) (k21 : PySem.W.keepIn K (.ref f21) = true)
    {f22 : Addr} {od22 an22 : Option Addr} {sl22 : Array (Option Value)} {oc22 kV22 dc22 pm22 cd22 ct22 : Value}
    (a22 : PySem.W.nsIn K mainGlobals "_law_same" = some (some (.ref f22))) (l22 : K.lookup f22 = some ⟨oc22, od22, .func (PySem.W.fnOf "_law_same" "_law_same" (defArgs s__law_same) (defBody s__law_same) (defScope s__law_same) .none kV22 dc22 pm22 an22 cd22 ct22), sl22⟩) (c22 : PySem.W.codeIn K cd22 "_law_same" = true) (k22 : PySem.W.keepIn K (.ref f22) = true)
    {f23 : Addr} {od23 an23 : Option Addr} {sl23 : Array (Option Value)} {oc23 kV23 dc23 pm23 cd23 ct23 : Value}
    (a23 : PySem.W.nsIn K mainGlobals "_law_number" = some (some (.ref f23))) (l23 : K.lookup f23 = some ⟨oc23, od23, .func (PySem.W.fnOf "_law_number" "_law_number" (defArgs s__law_number) (defBody s__law_number) (defScope s__law_number) .none kV23 dc23 pm23 an23 cd23 ct23), sl23⟩) (c23 : PySem.W.codeIn K cd23 "_law_number" = true) (k23 : PySem.W.keepIn K (.ref f23) = true)
    {f24 : Addr} {od24 an24 : Option Addr} {sl24 : Array (Option Value)} {oc24 kV24 dc24 pm24 cd24 ct24 : Value}
    (a24 : PySem.W.nsIn K mainGlobals "_law_with" = some (some (.ref f24))) (l24 : K.lookup f24 = some ⟨oc24, od24, .func (PySem.W.fnOf "_law_with" "_law_with" (defArgs s__law_with) (defBody s__law_with) (defScope s__law_with) .none kV24 dc24 pm24 an24 cd24 ct24), sl24⟩) (c24 : PySem.W.codeIn K cd24 "_law_with" = true) (k24 : PySem.W.keepIn K (.ref f24) = true)
    {f25 : Addr} {od25 an25 : Option Addr} {sl25 : Array (Option Value)} {oc25 kV25 dc25 pm25 cd25 ct25 : Value}
    (a25 : PySem.W.nsIn K mainGlobals "_law_bounds" = some (some (.ref f25))) (l25 : K.lookup f25 = some ⟨oc25, od25, .func (PySem.W.fnOf "_law_bounds" "_law_bounds" (defArgs s__law_bounds) (defBody s__law_bounds) (defScope s__law_bounds) .none kV25 dc25 pm25 an25 cd25 ct25), sl25⟩) (c25 : PySem.W.codeIn K cd25 "_law_bounds" = true) (k25 : PySem.W.keepIn K (.ref f25) = true)
    {f26 : Addr} {od26 an26 : Option Addr} {sl26 : Array (Option Value)} {oc26 kV26 dc26 pm26 cd26 ct26 : Value}
    (a26 : PySem.W.nsIn K mainGlobals "_law_a_slot" = some (some (.ref f26))) (l26 : K.lookup f26 = some ⟨oc26, od26, .func (PySem.W.fnOf "_law_a_slot" "_law_a_slot" (defArgs s__law_a_slot) (defBody s__law_a_slot) (defScope s__law_a_slot) .none kV26 dc26 pm26 an26 cd26 ct26), sl26⟩) (c26 : PySem.W.codeIn K cd26 "_law_a_slot" = true) (k26 : PySem.W.keepIn K (.ref f26) = true)
    {f27 : Addr} {od27 an27 : Option Addr} {sl27 : Array (Option Value)} {oc27 kV27 dc27 pm27 cd27 ct27 : Value}
    (a27 : PySem.W.nsIn K mainGlobals "_law_some" = some (some (.ref f27))) (l27 : K.lookup f27 = some ⟨oc27, od27, .func (PySem.W.fnOf "_law_some" "_law_some" (defArgs s__law_some) (defBody s__law_some) (defScope s__law_some) .none kV27 dc27 pm27 an27 cd27 ct27), sl27⟩) (c27 : PySem.W.codeIn K cd27 "_law_some" = true) (k27 : PySem.W.keepIn K (.ref f27) = true)
    {f28 : Addr} {od28 an28 : Option Addr} {sl28 : Array (Option Value)} {oc28 kV28 dc28 pm28 cd28 ct28 : Value}
    (a28 : PySem.W.nsIn K mainGlobals "_law_some_work" = some (some (.ref f28))) (l28 : K.lookup f28 = some ⟨oc28, od28, .func (PySem.W.fnOf "_law_some_work" "_law_some_work" (defArgs s__law_some_work) (defBody s__law_some_work) (defScope s__law_some_work) .none kV28 dc28 pm28 an28 cd28 ct28), sl28⟩) (c28 : PySem.W.codeIn K cd28 "_law_some_work" = true) (k28 : PySem.W.keepIn K (.ref f28) = true)
    {f29 : Addr} {od29 an29 : Option Addr} {sl29 : Array (Option Value)} {oc29 kV29 dc29 pm29 cd29 ct29 : Value}
    (a29 : PySem.W.nsIn K mainGlobals "_law_told" = some (some (.ref f29))) (l29 : K.lookup f29 = some ⟨oc29, od29, .func (PySem.W.fnOf "_law_told" "_law_told" (defArgs s__law_told) (defBody s__law_told) (defScope s__law_told) .none kV29 dc29 pm29 an29 cd29 ct29), sl29⟩) (c29 : PySem.W.codeIn K cd29 "_law_told" = true) (k29 : PySem.W.keepIn K (.ref f29) = true)
    {f30 : Addr} {od30 an30 : Option Addr} {sl30 : Array (Option Value)} {oc30 kV30 dc30 pm30 cd30 ct30 : Value}
    (a30 : PySem.W.nsIn K mainGlobals "_law_run" = some (some (.ref f30))) (l30 : K.lookup f30 = some ⟨oc30, od30, .func (PySem.W.fnOf "_law_run" "_law_run" (defArgs s__law_run) (defBody s__law_run) (defScope s__law_run) .none kV30 dc30 pm30 an30 cd30 ct30), sl30⟩) (c30 : PySem.W.codeIn K cd30 "_law_run" = true) (k30 : PySem.W.keepIn K (.ref f30) = true)
    {f31 : Addr} {od31 an31 : Option Addr} {sl31 : Array (Option Value)} {oc31 kV31 dc31 pm31 cd31 ct31 : Value}
    (a31 : PySem.W.nsIn K mainGlobals "_law_apart" = some (some (.ref f31))) (l31 : K.lookup f31 = some ⟨oc31, od31, .func (PySem.W.fnOf "_law_apart" "_law_apart" (defArgs s__law_apart) (defBody s__law_apart) (defScope s__law_apart) .none kV31 dc31 pm31 an31 cd31 ct31), sl31⟩) (c31 : PySem.W.codeIn K cd31 "_law_apart" = true) (k31 : PySem.W.keepIn K (.ref f31) = true)
    {f32 : Addr} {od32 an32 : Option Addr} {sl32 : Array (Option Value)} {oc32 kV32 dc32 pm32 cd32 ct32 : Value}
    (a32 : PySem.W.nsIn K mainGlobals "_law_lost" = some (some (.ref f32))) (l32 : K.lookup f32 = some ⟨oc32, od32, .func (PySem.W.fnOf "_law_lost" "_law_lost" (defArgs s__law_lost) (defBody s__law_lost) (defScope s__law_lost) .none kV32 dc32 pm32 an32 cd32 ct32), sl32⟩) (c32 : PySem.W.codeIn K cd32 "_law_lost" = true) (k32 : PySem.W.keepIn K (.ref f32) = true)
    {f33 : Addr} {od33 an33 : Option Addr} {sl33 : Array (Option Value)} {oc33 kV33 dc33 pm33 cd33 ct33 : Value}
    (a33 : PySem.W.nsIn K mainGlobals "law" = some (some (.ref f33))) (l33 : K.lookup f33 = some ⟨oc33, od33, .func (PySem.W.fnOf "law" "law" (defArgs s_law) (defBody s_law) (defScope s_law) .none kV33 dc33 pm33 an33 cd33 ct33), sl33⟩) (c33 : PySem.W.codeIn K cd33 "law" = true) (k33 : PySem.W.keepIn K (.ref f33) = true)
    (z0 : PySem.W.nsIn K mainGlobals "int" = some none)
    (z1 : PySem.W.nsIn K mainGlobals "len" = some none)
    (z2 : PySem.W.nsIn K mainGlobals "list" = some none)
    (z3 : PySem.W.nsIn K mainGlobals "range" = some none)
    (z4 : PySem.W.nsIn K mainGlobals "repr" = some none)
    (g_OutOfRange : PySem.W.nsIn K mainGlobals "OutOfRange" = some (some (.ref C_OutOfRange)))
    (g_Work : PySem.W.nsIn K mainGlobals "Work" = some (some (.ref C_Work)))
    (o_pg_Work : PySem.W.plainGet K C_Work Str.empty = true)
    (o_hd_Work : PySem.W.hasDictIn K C_Work = true)
    (o_po_Work : PySem.W.plainOver K C_Work = true)
    (o_sa_Work : PySem.W.findIn K (.ref C_Work) "__setattr__" = some (some (.builtin "object.__setattr__")))
    (o_mk_Work : PySem.W.makesIn K C_Work = true)
    (o_kp_Work : PySem.W.keepIn K (.ref C_Work) = true)
    (r_x_OutOfRange : PySem.W.excIn K C_OutOfRange [.type "ValueError", .type "Exception", .type "BaseException", .type "object"] "ValueError.__new__" = true)
    (r_k_OutOfRange : PySem.W.keepIn K (.ref C_OutOfRange) = true)
    (r_bb_OutOfRange : PySem.W.subIn K (.ref C_OutOfRange) (.type "BaseException") = some true)
    (r_tt_OutOfRange : PySem.W.typeIn K (.ref C_OutOfRange) = some (.type "type"))
    (e_Work_0 : PySem.W.findIn K (.ref C_Work) "kind" = some none)
    (e_Work_1 : PySem.W.findIn K (.ref C_Work) "source" = some none)
    (e_Work_2 : PySem.W.findIn K (.ref C_Work) "target" = some none)
    (e_Work_3 : PySem.W.findIn K (.ref C_Work) "value" = some none)
    (e_Work_4 : PySem.W.findIn K (.ref C_Work) "done" = some none)
    (e_Work_5 : PySem.W.findIn K (.ref C_Work) "source_bytes" = some none)
    (e_Work_6 : PySem.W.findIn K (.ref C_Work) "target_bytes" = some none)
    (e_Work_7 : PySem.W.findIn K (.ref C_Work) "result" = some none)
    (e_Work_8 : PySem.W.findIn K (.ref C_Work) "new" = some none)
    (qc_OutOfRange : PySem.W.isClsIn K C_OutOfRange = true)
    (qt_OutOfRange : PySem.W.typeIn K (.ref C_OutOfRange) = some (.type "type"))
    (qs_OutOfRange_OutOfRange : PySem.W.subIn K (.ref C_OutOfRange) (.ref C_OutOfRange) = some true)
    (qb_OutOfRange : PySem.W.subIn K (.ref C_OutOfRange) (.type "BaseException") = some true)
    : ∃ fd : FuncData, (∀ (s : Shared) (v : Value), BindsTo s fd ⟨[v], []⟩ [("_law_script", v)]) ∧ ∀ base : Heap, K.In base → base.Ns mainGlobals mg → FnG l.prog w K mg base 10 fa fd ["_law_script"] (sp_law K A0) := by
  have e := hfa.symm.trans (PySem.W.mg_of X G a33)
  cases e
  have F0 := fun_mk (st := s_power) l0 c0 k0
  have b0 := F0.binds (ps := ["exponent"]) fun _ _ _ _ _ _ us hl => match us, hl with | [_], _ => rfl
  have F1 := fun_mk (st := s_bounds) l1 c1 k1
  have b1 := F1.binds (ps := ["width", "signed"]) fun _ _ _ _ _ _ us hl => match us, hl with | [_, _], _ => rfl
  have F2 := fun_mk (st := s_word_number) l2 c2 k2
  have b2 := F2.binds (ps := ["data", "offset", "size", "big"]) fun _ _ _ _ _ _ us hl => match us, hl with | [_, _, _, _], _ => rfl
  have F3 := fun_mk (st := s_put_word_number) l3 c3 k3
  have b3 := F3.binds (ps := ["data", "offset", "size", "big", "number"]) fun _ _ _ _ _ _ us hl => match us, hl with | [_, _, _, _, _], _ => rfl
  have F4 := fun_mk (st := s_read_slot) l4 c4 k4
  have b4 := F4.binds (ps := ["data", "offset", "size", "big", "first", "width", "signed"]) fun _ _ _ _ _ _ us hl => match us, hl with | [_, _, _, _, _, _, _], _ => rfl
  have F5 := fun_mk (st := s_write_slot) l5 c5 k5
  have b5 := F5.binds (ps := ["data", "offset", "size", "big", "first", "width", "signed", "value"]) fun _ _ _ _ _ _ us hl => match us, hl with | [_, _, _, _, _, _, _, _], _ => rfl
  have F6 := fun_mk (st := s_is_whole) l6 c6 k6
  have b6 := F6.binds (ps := ["slot"]) fun _ _ _ _ _ _ us hl => match us, hl with | [_], _ => rfl
  have F7 := fun_mk (st := s_Work___init__) l7 c7 k7
  have b7 := F7.binds (ps := ["self", "kind", "source", "target", "value"]) fun _ _ _ _ _ _ us hl => match us, hl with | [_, _, _, _, _], _ => rfl
  have F8 := fun_mk (st := s_Work_written) l8 c8 k8
  have b8 := F8.binds (ps := ["self"]) fun _ _ _ _ _ _ us hl => match us, hl with | [_], _ => rfl
  have F9 := fun_mk (st := s_Work_source_reads) l9 c9 k9
  have b9 := F9.binds (ps := ["self"]) fun _ _ _ _ _ _ us hl => match us, hl with | [_], _ => rfl
  have F10 := fun_mk (st := s_Work_target_reads) l10 c10 k10
  have b10 := F10.binds (ps := ["self"]) fun _ _ _ _ _ _ us hl => match us, hl with | [_], _ => rfl
  have F11 := fun_mk (st := s_Work_writes) l11 c11 k11
  have b11 := F11.binds (ps := ["self"]) fun _ _ _ _ _ _ us hl => match us, hl with | [_], _ => rfl
  have F12 := fun_mk (st := s_Work_reads) l12 c12 k12
  have b12 := F12.binds (ps := ["self"]) fun _ _ _ _ _ _ us hl => match us, hl with | [_], _ => rfl
  have F13 := fun_mk (st := s_Work_total) l13 c13 k13
  have b13 := F13.binds (ps := ["self"]) fun _ _ _ _ _ _ us hl => match us, hl with | [_], _ => rfl
  have F14 := fun_mk (st := s_Work_read_source) l14 c14 k14
  have b14 := F14.binds (ps := ["self"]) fun _ _ _ _ _ _ us hl => match us, hl with | [_], _ => rfl
  have F15 := fun_mk (st := s_Work_make_new) l15 c15 k15
  have b15 := F15.binds (ps := ["self"]) fun _ _ _ _ _ _ us hl => match us, hl with | [_], _ => rfl
  have F16 := fun_mk (st := s_Work_target_place) l16 c16 k16
  have b16 := F16.binds (ps := ["self", "source_offset", "target_offset"]) fun _ _ _ _ _ _ us hl => match us, hl with | [_, _, _], _ => rfl
  have F17 := fun_mk (st := s_Work_step) l17 c17 k17
  have b17 := F17.binds (ps := ["self", "data", "source_offset", "target_offset"]) fun _ _ _ _ _ _ us hl => match us, hl with | [_, _, _, _], _ => rfl
  have F18 := fun_mk (st := s_Work_write) l18 c18 k18
  have b18 := F18.binds (ps := ["self", "data", "offset", "index"]) fun _ _ _ _ _ _ us hl => match us, hl with | [_, _, _, _], _ => rfl
  have F19 := fun_mk (st := s__law_cell) l19 c19 k19
  have b19 := F19.binds (ps := ["_law_script", "_law_k"]) fun _ _ _ _ _ _ us hl => match us, hl with | [_, _], _ => rfl
  have F20 := fun_mk (st := s__law_digits) l20 c20 k20
  have b20 := F20.binds (ps := ["_law_script", "_law_first", "_law_last"]) fun _ _ _ _ _ _ us hl => match us, hl with | [_, _, _], _ => rfl
  have F21 := fun_mk (st := s__law_draw) l21 c21 k21
  have b21 := F21.binds (ps := ["_law_box", "_law_many"]) fun _ _ _ _ _ _ us hl => match us, hl with | [_, _], _ => rfl
  have F22 := fun_mk (st := s__law_same) l22 c22 k22
  have b22 := F22.binds (ps := ["_law_actual", "_law_due"]) fun _ _ _ _ _ _ us hl => match us, hl with | [_, _], _ => rfl
  have F23 := fun_mk (st := s__law_number) l23 c23 k23
  have b23 := F23.binds (ps := ["_law_digits_here", "_law_big"]) fun _ _ _ _ _ _ us hl => match us, hl with | [_, _], _ => rfl
  have F24 := fun_mk (st := s__law_with) l24 c24 k24
  have b24 := F24.binds (ps := ["_law_digits_here", "_law_slot_here", "_law_value"]) fun _ _ _ _ _ _ us hl => match us, hl with | [_, _, _], _ => rfl
  have F25 := fun_mk (st := s__law_bounds) l25 c25 k25
  have b25 := F25.binds (ps := ["_law_slot_here"]) fun _ _ _ _ _ _ us hl => match us, hl with | [_], _ => rfl
  have F26 := fun_mk (st := s__law_a_slot) l26 c26 k26
  have b26 := F26.binds (ps := ["_law_box"]) fun _ _ _ _ _ _ us hl => match us, hl with | [_], _ => rfl
  have F27 := fun_mk (st := s__law_some) l27 c27 k27
  have b27 := F27.binds (ps := ["_law_box", "_law_slot_here"]) fun _ _ _ _ _ _ us hl => match us, hl with | [_, _], _ => rfl
  have F28 := fun_mk (st := s__law_some_work) l28 c28 k28
  have b28 := F28.binds (ps := ["_law_box"]) fun _ _ _ _ _ _ us hl => match us, hl with | [_], _ => rfl
  have F29 := fun_mk (st := s__law_told) l29 c29 k29
  have b29 := F29.binds (ps := ["_law_work", "_law_data", "_law_source_at", "_law_target_at"]) fun _ _ _ _ _ _ us hl => match us, hl with | [_, _, _, _], _ => rfl
  have F30 := fun_mk (st := s__law_run) l30 c30 k30
  have b30 := F30.binds (ps := ["_law_works", "_law_places", "_law_order", "_law_data"]) fun _ _ _ _ _ _ us hl => match us, hl with | [_, _, _, _], _ => rfl
  have F31 := fun_mk (st := s__law_apart) l31 c31 k31
  have b31 := F31.binds (ps := ["_law_box"]) fun _ _ _ _ _ _ us hl => match us, hl with | [_], _ => rfl
  have F32 := fun_mk (st := s__law_lost) l32 c32 k32
  have b32 := F32.binds (ps := ["_law_box"]) fun _ _ _ _ _ _ us hl => match us, hl with | [_], _ => rfl
  have F33 := fun_mk (st := s_law) l33 c33 k33
  have b33 := F33.binds (ps := ["_law_script"]) fun _ _ _ _ _ _ us hl => match us, hl with | [_], _ => rfl
  have T : Top K mg ⟨0, 0, 0, C_OutOfRange, 0, 0, 0, 0, 0, C_Work, 0, 0⟩ ⟨_, _, _, _, _, _, _, _, _, _, _, _, _, _, _, _, _, _, _, _, _, _, _, _, _, _, _, _, _, _, _, _, _, _, _, _, _, _, _, _, _, _, _, _, _, _, _, _, _, _, _, _, _, _, _, _, _, _, _, _, _, _, _, _, _, _, _, _⟩ := ⟨F0, b0, PySem.W.mg_of X G a0, F1, b1, PySem.W.mg_of X G a1, F2, b2, PySem.W.mg_of X G a2, F3, b3, PySem.W.mg_of X G a3, F4, b4, PySem.W.mg_of X G a4, F5, b5, PySem.W.mg_of X G a5, F6, b6, PySem.W.mg_of X G a6, F7, b7, ⟨a7, v7, k7⟩, F8, b8, ⟨a8, v8, k8⟩, F9, b9, ⟨a9, v9, k9⟩, F10, b10, ⟨a10, v10, k10⟩, F11, b11, ⟨a11, v11, k11⟩, F12, b12, ⟨a12, v12, k12⟩, F13, b13, ⟨a13, v13, k13⟩, F14, b14, ⟨a14, v14, k14⟩, F15, b15, ⟨a15, v15, k15⟩, F16, b16, ⟨a16, v16, k16⟩, F17, b17, ⟨a17, v17, k17⟩, F18, b18, ⟨a18, v18, k18⟩, F19, b19, PySem.W.mg_of X G a19, F20, b20, PySem.W.mg_of X G a20, F21, b21, PySem.W.mg_of X G a21, F22, b22, PySem.W.mg_of X G a22, F23, b23, PySem.W.mg_of X G a23, F24, b24, PySem.W.mg_of X G a24, F25, b25, PySem.W.mg_of X G a25, F26, b26, PySem.W.mg_of X G a26, F27, b27, PySem.W.mg_of X G a27, F28, b28, PySem.W.mg_of X G a28, F29, b29, PySem.W.mg_of X G a29, F30, b30, PySem.W.mg_of X G a30, F31, b31, PySem.W.mg_of X G a31, F32, b32, PySem.W.mg_of X G a32, F33, b33, PySem.W.mg_of X G a33, ⟨o_pg_Work, o_hd_Work, o_po_Work, o_sa_Work⟩, ⟨o_mk_Work, a7, v7, o_kp_Work⟩, PySem.W.mg_none_of X G z0, PySem.W.mg_none_of X G z1, PySem.W.mg_none_of X G z2, PySem.W.mg_none_of X G z3, PySem.W.mg_none_of X G z4, PySem.W.mg_of X G g_OutOfRange, PySem.W.mg_of X G g_Work, r_x_OutOfRange, r_k_OutOfRange, r_bb_OutOfRange, r_tt_OutOfRange, ⟨⟨⟨o_pg_Work, o_hd_Work, o_po_Work, o_sa_Work⟩, fun z hz => by simp only [List.mem_cons, List.not_mem_nil, or_false] at hz; rcases hz with rfl | rfl | rfl | rfl | rfl | rfl | rfl | rfl | rfl <;> assumption⟩, (exm_r qb_OutOfRange qc_OutOfRange qt_OutOfRange qs_OutOfRange_OutOfRange)⟩⟩
  exact ⟨_, fun s v => .of_eq rfl, fun base _ _ => ok_law T⟩
end Rs
open PySem PySem.W PyProof.Rows
set_option maxRecDepth 100000 in
set_option maxHeartbeats 0 in
theorem PySem.Challenge.cw_recstore_k14_works_woven_holds : PySem.Challenge.rw_recstore_k14_works_woven.Holds := by
  w_on; o_law; k_head; (case hw => w_witness2)
  k_fill
  refine Rs.walk_ofG (l := PySem.Challenge.rw_recstore_k14_works_woven) (n := 63) (k := 10) (x := "_law_script") (sp := fun K => Rs.sp_law K Rs.A0) rfl (by decide) rfl ⟨rfl, by decide, by decide⟩ (fun w h Y => PySem.W.kIn_of Y) ?F (fun _ _ a ns _ _ _ hS => ⟨a, ns, rfl, hS, fun _ => rfl⟩)
  case F =>
    intro w mg fa h KX G hmg
    refine' Rs.all_mk KX G hmg ?a0 ?l0 ?c0 ?k0 ?a1 ?l1 ?c1 ?k1 ?a2 ?l2 ?c2 ?k2 ?a3 ?l3 ?c3 ?k3 ?a4 ?l4 ?c4 ?k4 ?a5 ?l5 ?c5 ?k5 ?a6 ?l6 ?c6 ?k6 ?a7 ?v7 ?l7 ?c7 ?k7 ?a8 ?v8 ?l8 ?c8 ?k8 ?a9 ?v9 ?l9 ?c9 ?k9 ?a10 ?v10 ?l10 ?c10 ?k10 ?a11 ?v11 ?l11 ?c11 ?k11 ?a12 ?v12 ?l12 ?c12 ?k12 ?a13 ?v13 ?l13 ?c13 ?k13 ?a14 ?v14 ?l14 ?c14 ?k14 ?a15 ?v15 ?l15 ?c15 ?k15 ?a16 ?v16 ?l16 ?c16 ?k16 ?a17 ?v17 ?l17 ?c17 ?k17 ?a18 ?v18 ?l18 ?c18 ?k18 ?a19 ?l19 ?c19 ?k19 ?a20 ?l20 ?c20 ?k20 ?a21 ?l21 ?c21 ?k21 ?a22 ?l22 ?c22 ?k22 ?a23 ?l23 ?c23 ?k23 ?a24 ?l24 ?c24 ?k24 ?a25 ?l25 ?c25 ?k25 ?a26 ?l26 ?c26 ?k26 ?a27 ?l27 ?c27 ?k27 ?a28 ?l28 ?c28 ?k28 ?a29 ?l29 ?c29 ?k29 ?a30 ?l30 ?c30 ?k30 ?a31 ?l31 ?c31 ?k31 ?a32 ?l32 ?c32 ?k32 ?a33 ?l33 ?c33 ?k33 ?z0 ?z1 ?z2 ?z3 ?z4 ?g_OutOfRange ?g_Work ?o_pg_Work ?o_hd_Work ?o_po_Work ?o_sa_Work ?o_mk_Work ?o_kp_Work ?r_x_OutOfRange ?r_k_OutOfRange ?r_bb_OutOfRange ?r_tt_OutOfRange ?e_Work_0 ?e_Work_1 ?e_Work_2 ?e_Work_3 ?e_Work_4 ?e_Work_5 ?e_Work_6 ?e_Work_7 ?e_Work_8 ?qc_OutOfRange ?qt_OutOfRange ?qs_OutOfRange_OutOfRange ?qb_OutOfRange
    (case g_OutOfRange => k_is); (case g_Work => k_is); (case a0 => k_is); (case l0 => k_is); (case c0 => k_is); (case k0 => k_is); (case a1 => k_is); (case l1 => k_is)
    (case c1 => k_is); (case k1 => k_is); (case a2 => k_is); (case l2 => k_is); (case c2 => k_is); (case k2 => k_is); (case a3 => k_is); (case l3 => k_is)
    (case c3 => k_is); (case k3 => k_is); (case a4 => k_is); (case l4 => k_is); (case c4 => k_is); (case k4 => k_is); (case a5 => k_is); (case l5 => k_is)
    (case c5 => k_is); (case k5 => k_is); (case a6 => k_is); (case l6 => k_is); (case c6 => k_is); (case k6 => k_is); (case a7 => k_is); (case v7 => k_is)
    (case l7 => k_is); (case c7 => k_is); (case k7 => k_is); (case a8 => k_is); (case v8 => k_is); (case l8 => k_is); (case c8 => k_is); (case k8 => k_is)
    (case a9 => k_is); (case v9 => k_is); (case l9 => k_is); (case c9 => k_is); (case k9 => k_is); (case a10 => k_is); (case v10 => k_is); (case l10 => k_is)
    (case c10 => k_is); (case k10 => k_is); (case a11 => k_is); (case v11 => k_is); (case l11 => k_is); (case c11 => k_is); (case k11 => k_is); (case a12 => k_is)
    (case v12 => k_is); (case l12 => k_is); (case c12 => k_is); (case k12 => k_is); (case a13 => k_is); (case v13 => k_is); (case l13 => k_is); (case c13 => k_is)
    (case k13 => k_is); (case a14 => k_is); (case v14 => k_is); (case l14 => k_is); (case c14 => k_is); (case k14 => k_is); (case a15 => k_is); (case v15 => k_is)
    (case l15 => k_is); (case c15 => k_is); (case k15 => k_is); (case a16 => k_is); (case v16 => k_is); (case l16 => k_is); (case c16 => k_is); (case k16 => k_is)
    (case a17 => k_is); (case v17 => k_is); (case l17 => k_is); (case c17 => k_is); (case k17 => k_is); (case a18 => k_is); (case v18 => k_is); (case l18 => k_is)
    (case c18 => k_is); (case k18 => k_is); (case a19 => k_is); (case l19 => k_is); (case c19 => k_is); (case k19 => k_is); (case a20 => k_is); (case l20 => k_is)
    (case c20 => k_is); (case k20 => k_is); (case a21 => k_is); (case l21 => k_is); (case c21 => k_is); (case k21 => k_is); (case a22 => k_is); (case l22 => k_is)
    (case c22 => k_is); (case k22 => k_is); (case a23 => k_is); (case l23 => k_is); (case c23 => k_is); (case k23 => k_is); (case a24 => k_is); (case l24 => k_is)
    (case c24 => k_is); (case k24 => k_is); (case a25 => k_is); (case l25 => k_is); (case c25 => k_is); (case k25 => k_is); (case a26 => k_is); (case l26 => k_is)
    (case c26 => k_is); (case k26 => k_is); (case a27 => k_is); (case l27 => k_is); (case c27 => k_is); (case k27 => k_is); (case a28 => k_is); (case l28 => k_is)
    (case c28 => k_is); (case k28 => k_is); (case a29 => k_is); (case l29 => k_is); (case c29 => k_is); (case k29 => k_is); (case a30 => k_is); (case l30 => k_is)
    (case c30 => k_is); (case k30 => k_is); (case a31 => k_is); (case l31 => k_is); (case c31 => k_is); (case k31 => k_is); (case a32 => k_is); (case l32 => k_is)
    (case c32 => k_is); (case k32 => k_is); (case a33 => k_is); (case l33 => k_is); (case c33 => k_is); (case k33 => k_is); (case z0 => k_is); (case z1 => k_is)
    (case z2 => k_is); (case z3 => k_is); (case z4 => k_is); (case o_pg_Work => k_is); (case o_hd_Work => k_is); (case o_po_Work => k_is); (case o_sa_Work => k_is); (case o_mk_Work => k_is)
    (case o_kp_Work => k_is); (case r_x_OutOfRange => k_exc); (case r_k_OutOfRange => k_is); (case r_bb_OutOfRange => k_is); (case r_tt_OutOfRange => k_is); (case e_Work_0 => k_is); (case e_Work_1 => k_is); (case e_Work_2 => k_is)
    (case e_Work_3 => k_is); (case e_Work_4 => k_is); (case e_Work_5 => k_is); (case e_Work_6 => k_is); (case e_Work_7 => k_is); (case e_Work_8 => k_is); (case qc_OutOfRange => k_is); (case qt_OutOfRange => k_is)
    (case qs_OutOfRange_OutOfRange => k_is); (case qb_OutOfRange => k_is)
