import PyProof.Rows.All
import Wide.All
import OpenK.AllK
import Wide.FinOn
import HandS.ForMost
import HandS.Exc
import HandS.TryOnly
import HandS.ExcOwn
import HandS.WordsExc
import HandS.IsInst
import HandS.Wide
import HandS.TupAny
import HandS.Flow
import HandS.RaiseMore
import HandS.Deep
import HandS.EndBits
import HandS.Style
import HandS.ExcIs
import PySem.Challenge.RW_recstore_k01_slots_apart
set_option Elab.async false
set_option linter.all false
set_option maxRecDepth 100000
set_option maxHeartbeats 8000000
namespace Rs
open PySem PySem.Spec PyProof.Rows L2

/-! ### what is known of a heap: a ledger -/
mutual
/-- data that never changes -/
inductive Im (K : PySem.W.Frag) (H : Hp) : V → PyData → Prop
  | non : Im K H .non .none
  | bl (b : Bool) : Im K H (.bl b) (.bool b)
  | int (i : Int) : Im K H (.int i) (.int i)
  | str (x : Str) : Im K H (.str x) (.str x)
  | tup {a : Addr} {xs : List V} {ds : List PyData} : SqT K H a xs → Ims K H xs ds → Im K H (.ref a) (.tuple ds)
inductive Ims (K : PySem.W.Frag) (H : Hp) : List V → List PyData → Prop
  | nil : Ims K H [] []
  | cons {v : V} {vs : List V} {d : PyData} {ds : List PyData} : Im K H v d → Ims K H vs ds → Ims K H (v :: vs) (d :: ds)
end
/-- an entry: a thing, or a list of data that never changes -/
inductive Ent | raw (o : HO) | dl (ds : List PyData)
def EntAt (K : PySem.W.Frag) (H : Hp) (a : Addr) : Ent → Prop
  | .raw o => H a = some o
  | .dl ds => ∃ xs, H a = some (.lst xs) ∧ Ims K H xs ds
/-- all is as it was, but at S -/
def KBs (H H' : Hp) (S : List Addr) : Prop := ∀ b o, H b = some o → b ∉ S → H' b = some o
/-- no tuple stands at S -/
def NoT (H : Hp) (S : List Addr) : Prop := ∀ a ∈ S, ∀ xs, H a ≠ some (.tup xs) ∧ ∀ o, H a ≠ some (.frz o (.tup xs))
section
variable {K : PySem.W.Frag} {H H' : Hp} {S : List Addr}
theorem KBs.refl : KBs H H S := fun _ _ h _ => h
theorem KBs.trans {H1 H2 : Hp} (a : KBs H H1 S) (b : KBs H1 H2 S) : KBs H H2 S := fun c o h n => b c o (a c o h n) n
theorem KBs.mono {T : List Addr} (a : KBs H H' S) (h : ∀ x ∈ S, x ∈ T) : KBs H H' T := fun c o e n => a c o e fun m => n (h c m)
theorem KBs.of (a : Same H H') : KBs H H' S := fun c o e _ => a c o e
theorem KBs.same (a : KBs H H' []) : Same H H' := fun c o e => a c o e (by simp)
theorem sqT_keep {a : Addr} {xs : List V} (k : KBs H H' S) (n : NoT H S) (h : SqT K H a xs) : SqT K H' a xs := by
  rcases h with (h | ⟨o, h⟩) | h
  · refine .inl (.inl (k _ _ h fun m => ?_))
    exact (n a m xs).1 h
  · refine .inl (.inr ⟨o, k _ _ h fun m => ?_⟩)
    exact (n a m xs).2 o h
  · exact .inr h

mutual
theorem Im.keep (k : KBs H H' S) (n : NoT H S) : ∀ {v : V} {d : PyData}, Im K H v d → Im K H' v d
  | _, _, .non => .non
  | _, _, .bl b => .bl b
  | _, _, .int i => .int i
  | _, _, .str x => .str x
  | _, _, .tup h hs => .tup (sqT_keep k n h) (Ims.keep k n hs)
theorem Ims.keep (k : KBs H H' S) (n : NoT H S) : ∀ {vs : List V} {ds : List PyData}, Ims K H vs ds → Ims K H' vs ds
  | _, _, .nil => .nil
  | _, _, .cons h hs => .cons (Im.keep k n h) (Ims.keep k n hs)
end
theorem NoT.nil : NoT H [] := fun _ h => by cases h
theorem Im.same (k : Same H H') {v : V} {d : PyData} (h : Im K H v d) : Im K H' v d := Im.keep (S := []) (KBs.of k) NoT.nil h
theorem Ims.same (k : Same H H') {v : List V} {d : List PyData} (h : Ims K H v d) : Ims K H' v d := Ims.keep (S := []) (KBs.of k) NoT.nil h
theorem Ims.len : ∀ {vs : List V} {ds : List PyData}, Ims K H vs ds → vs.length = ds.length
  | _, _, .nil => rfl
  | _, _, .cons _ h => by rw [List.length_cons, List.length_cons, Ims.len h]
theorem Ims.get : ∀ {vs : List V} {ds : List PyData} {i : Nat} {v : V}, Ims K H vs ds → vs[i]? = some v → ∃ d, ds[i]? = some d ∧ Im K H v d
  | _, _, i, v, .nil, e => by simp at e
  | _, _, 0, v, .cons h _, e => by
    have e' := Option.some.inj e
    subst e'
    exact ⟨_, rfl, h⟩
  | _, _, i + 1, v, .cons _ h, e => Ims.get (i := i) h e
theorem Ims.get' : ∀ {vs : List V} {ds : List PyData} {i : Nat} {d : PyData}, Ims K H vs ds → ds[i]? = some d → ∃ v, vs[i]? = some v ∧ Im K H v d
  | _, _, i, v, .nil, e => by simp at e
  | _, _, 0, v, .cons h _, e => by
    have e' := Option.some.inj e
    subst e'
    exact ⟨_, rfl, h⟩
  | _, _, i + 1, v, .cons _ h, e => Ims.get' (i := i) h e
theorem Ims.app : ∀ {vs ws : List V} {ds es : List PyData}, Ims K H vs ds → Ims K H ws es → Ims K H (vs ++ ws) (ds ++ es)
  | _, _, _, _, .nil, h => h
  | _, _, _, _, .cons a b, h => .cons a (Ims.app b h)
theorem Ims.one {v : V} {d : PyData} (h : Im K H v d) : Ims K H [v] [d] := .cons h .nil
theorem Ims.ints : ∀ {vs : List V} {ns : List Int}, Ims K H vs (ns.map PyData.int) → vs = ns.map V.int
  | _, [], .nil => rfl
  | _, n :: ns, .cons h t => by
    cases h
    rw [Ims.ints t]
    rfl
theorem Ims.of_ints : ∀ ns : List Int, Ims K H (ns.map V.int) (ns.map PyData.int)
  | [] => .nil
  | n :: ns => .cons (.int n) (Ims.of_ints ns)
theorem Ims.take (n : Nat) : ∀ {vs : List V} {ds : List PyData}, Ims K H vs ds → Ims K H (vs.take n) (ds.take n) := by
  induction n with
  | zero => intro vs ds _; exact .nil
  | succ n ih =>
    intro vs ds h
    cases h with
    | nil => exact .nil
    | cons a b => exact .cons a (ih b)
theorem Ims.drop (n : Nat) : ∀ {vs : List V} {ds : List PyData}, Ims K H vs ds → Ims K H (vs.drop n) (ds.drop n) := by
  induction n with
  | zero => intro vs ds h; exact h
  | succ n ih =>
    intro vs ds h
    cases h with
    | nil => exact .nil
    | cons a b => exact ih b
mutual
theorem Im.dp : ∀ {v : V} {d : PyData}, Im K H v d → Dp K H v d
  | _, _, .non => .non
  | _, _, .bl b => .bl b
  | _, _, .int i => .int i
  | _, _, .str x => .str x
  | _, _, .tup h hs => .tup h (Ims.dp hs)
theorem Ims.dp : ∀ {vs : List V} {ds : List PyData}, Ims K H vs ds → DpAll K H vs ds
  | _, _, .nil => .nil
  | _, _, .cons h hs => .cons (Im.dp h) (Ims.dp hs)
end
/-- what the entry tells stays -/
theorem EntAt.keep {a : Addr} {e : Ent} (k : KBs H H' S) (n : NoT H S) (ha : a ∉ S) (h : EntAt K H a e) : EntAt K H' a e := by
  cases e with
  | raw o => exact k _ _ h ha
  | dl ds =>
    obtain ⟨xs, h1, h2⟩ := h
    exact ⟨xs, k _ _ h1 ha, h2.keep k n⟩
theorem EntAt.some {a : Addr} {e : Ent} (h : EntAt K H a e) : ∃ o, H a = some o := by
  cases e with
  | raw o => exact ⟨o, h⟩
  | dl ds =>
    obtain ⟨xs, h1, _⟩ := h
    exact ⟨_, h1⟩
end

/-- the ledger: H0 the heap at the entry, S what may have changed of it since; L: what is known of lists and objects, I: of data -/
structure Led (K : PySem.W.Frag) (H0 : Hp) (S : List Addr) (H : Hp) (L : List (Addr × Ent)) (I : List (V × PyData)) : Prop where
  nd : (L.map (·.1)).Nodup
  at_ : ∀ (n : Nat) a e, L[n]? = some (a, e) → EntAt K H a e
  im : ∀ (n : Nat) v d, I[n]? = some (v, d) → Im K H v d
  kp : KBs H0 H S
section
variable {K : PySem.W.Frag} {H0 H H' : Hp} {S : List Addr} {L : List (Addr × Ent)} {I : List (V × PyData)}
theorem Led.start : Led K H S H [] [] := ⟨List.nodup_nil, fun n a e h => by simp at h, fun n v d h => by simp at h, KBs.refl⟩
theorem Led.raw (h : Led K H0 S H L I) (n : Nat) {a : Addr} {o : HO} (e : L[n]? = some (a, .raw o)) : H a = some o := h.at_ n a _ e
/-- fresh now is fresh at the entry -/
theorem fresh0 (h : KBs H0 H S) {p : Addr} (hs : p ∉ S) (e : H p = none) : H0 p = none := by
  cases q : H0 p with
  | none => rfl
  | some o =>
    rw [h p o q hs] at e
    cases e
theorem Led.notin (h : Led K H0 S H L I) {p : Addr} (e : H p = none) : p ∉ L.map (·.1) := fun m => by
  obtain ⟨⟨a, x⟩, h1, h2⟩ := List.mem_map.mp m
  obtain ⟨n, hn, h3⟩ := List.getElem_of_mem h1
  have h4 : L[n]? = some (a, x) := by rw [List.getElem?_eq_getElem hn, h3]
  obtain ⟨o, h5⟩ := (h.at_ n a x h4).some
  have h6 : a = p := h2
  subst h6
  rw [h5] at e
  cases e
theorem Led.same (h : Led K H0 S H L I) (k : Same H H') : Led K H0 S H' L I :=
  ⟨h.nd, fun n a e q => (h.at_ n a e q).keep (S := []) (KBs.of k) NoT.nil (by simp), fun n v d q => (h.im n v d q).same k, h.kp.trans (KBs.of k)⟩
/-- a new entry -/
theorem Led.new (h : Led K H0 S H L I) (k : Same H H') {p : Addr} {e : Ent} (hn : H p = none) (he : EntAt K H' p e) : Led K H0 S H' ((p, e) :: L) I := by
  have h1 := h.same k
  refine ⟨?_, fun n a x q => ?_, h1.im, h1.kp⟩
  · rw [List.map_cons, List.nodup_cons]
    exact ⟨h.notin hn, h.nd⟩
  · cases n with
    | zero =>
      have q' := Option.some.inj q
      cases q'
      exact he
    | succ n => exact h1.at_ n a x q
theorem same_new {p : Addr} {o : HO} (h : H p = none) : Same H (upd H p o) := fun b x e => by
  rw [upd_ne (ne_of_none e h)]
  exact e
theorem Led.alloc (h : Led K H0 S H L I) {p : Addr} {o : HO} (hn : H p = none) : Led K H0 S (upd H p o) ((p, .raw o) :: L) I := h.new (same_new hn) hn upd_same
theorem Led.allocD (h : Led K H0 S H L I) {p : Addr} {xs : List V} {ds : List PyData} (hn : H p = none) (hd : Ims K H xs ds) : Led K H0 S (upd H p (.lst xs)) ((p, .dl ds) :: L) I :=
  h.new (same_new hn) hn ⟨xs, upd_same, hd.same (same_new hn)⟩
/-- a new fact on data -/
theorem Led.imNew (h : Led K H0 S H L I) {v : V} {d : PyData} (hi : Im K H v d) : Led K H0 S H L ((v, d) :: I) :=
  ⟨h.nd, h.at_, fun n x y q => by
    cases n with
    | zero =>
      have q' := Option.some.inj q
      cases q'
      exact hi
    | succ n => exact h.im n x y q, h.kp⟩
theorem Led.allocT (h : Led K H0 S H L I) {p : Addr} {xs : List V} {ds : List PyData} (hn : H p = none) (hd : Ims K H xs ds) : Led K H0 S (upd H p (.tup xs)) L ((.ref p, .tuple ds) :: I) :=
  (h.same (same_new hn)).imNew (.tup (SqT.of upd_same) (hd.same (same_new hn)))
def isMut : HO → Bool
  | .tup _ => false
  | .frz _ _ => false
  | _ => true
theorem NoT.one {a : Addr} {o : HO} (h : H a = some o) (hm : isMut o = true) : NoT H [a] := fun b hb xs => by
  have e : b = a := by simpa using hb
  subst e
  refine ⟨fun q => ?_, fun u q => ?_⟩
  · rw [h] at q
    cases q
    exact Bool.false_ne_true hm
  · rw [h] at q
    cases q
    exact Bool.false_ne_true hm
/-- the n-th entry changes -/
theorem Led.wr (h : Led K H0 S H L I) (n : Nat) {a : Addr} {e e' : Ent} {o : HO} (q : L[n]? = some (a, e)) (k : KBs H H' [a]) (ho : H a = some o) (hm : isMut o = true) (he : EntAt K H' a e') (hs : H0 a = none ∨ a ∈ S) : Led K H0 S H' (L.set n (a, e')) I := by
  have hN := NoT.one ho hm
  have hn : n < L.length := (List.getElem?_eq_some_iff.mp q).1
  refine ⟨?_, fun m b x r => ?_, fun m v d r => (h.im m v d r).keep k hN, fun b x r hb => ?_⟩
  · have e2 : (L.set n (a, e')).map (·.1) = L.map (·.1) := by
      rw [List.map_set]
      refine List.ext_getElem? fun i => ?_
      by_cases hi : n = i
      · subst hi
        rw [List.getElem?_set_self (by rw [List.length_map]; exact hn), List.getElem?_map, q]
        rfl
      · rw [List.getElem?_set_ne hi]
    rw [e2]
    exact h.nd
  · by_cases hm' : n = m
    · subst hm'
      rw [List.getElem?_set_self hn] at r
      cases r
      exact he
    · rw [List.getElem?_set_ne hm'] at r
      refine (h.at_ m b x r).keep k hN fun hb => ?_
      have e3 : b = a := by simpa using hb
      subst e3
      have r1 : (L.map (·.1))[m]? = some b := by
        rw [List.getElem?_map, r]
        rfl
      have r2 : (L.map (·.1))[n]? = some b := by
        rw [List.getElem?_map, q]
        rfl
      exact hm' (nd_ix h.nd r2 r1)
  · refine k b x (h.kp b x r hb) fun z => ?_
    have e3 : b = a := by simpa using z
    subst e3
    rcases hs with hs | hs
    · rw [r] at hs
      cases hs
    · exact hb hs
/-- entries that are no longer wanted -/
theorem Led.take (h : Led K H0 S H L I) (L' : List (Addr × Ent)) (I' : List (V × PyData)) (f : List Nat) (g : List Nat) (hf : f.Nodup) (h1 : L'.length = f.length) (h2 : ∀ (i n : Nat), f[i]? = some n → L'[i]? = L[n]?) (h3 : I'.length = g.length) (h4 : ∀ (i n : Nat), g[i]? = some n → I'[i]? = I[n]?) : Led K H0 S H L' I' := by
  have nth : ∀ (i : Nat) a e, L'[i]? = some (a, e) → ∃ n, f[i]? = some n ∧ L[n]? = some (a, e) := fun i a e q => by
    have hi : i < f.length := by rw [← h1]; exact (List.getElem?_eq_some_iff.mp q).1
    refine ⟨f[i], List.getElem?_eq_getElem hi, ?_⟩
    rw [← h2 i f[i] (List.getElem?_eq_getElem hi)]
    exact q
  refine ⟨?_, fun i a e q => ?_, fun i v d q => ?_, h.kp⟩
  · refine List.pairwise_iff_getElem.mpr fun i j hi' hj' hij e => ?_
    have hi : i < L'.length := by rw [← List.length_map (f := (·.1))]; exact hi'
    have hj : j < L'.length := by rw [← List.length_map (f := (·.1))]; exact hj'
    obtain ⟨n, fn, ln⟩ := nth i L'[i].1 L'[i].2 (List.getElem?_eq_getElem hi)
    obtain ⟨m, fm, lm⟩ := nth j L'[j].1 L'[j].2 (List.getElem?_eq_getElem hj)
    have ea : L'[i].1 = L'[j].1 := by
      rw [List.getElem_map, List.getElem_map] at e
      exact e
    have r1 : (L.map (·.1))[n]? = some L'[i].1 := by
      rw [List.getElem?_map, ln]
      rfl
    have r2 : (L.map (·.1))[m]? = some L'[i].1 := by
      rw [List.getElem?_map, lm, ea]
      rfl
    have en := nd_ix h.nd r1 r2
    subst en
    exact absurd (nd_ix hf fn fm) (Nat.ne_of_lt hij)
  · obtain ⟨n, _, ln⟩ := nth i a e q
    exact h.at_ n a e ln
  · have hi : i < g.length := by rw [← h3]; exact (List.getElem?_eq_some_iff.mp q).1
    have q2 := h4 i g[i] (List.getElem?_eq_getElem hi)
    rw [q] at q2
    exact h.im _ v d q2.symm
end

abbrev RCall := List V → Hp → VK → Prop
abbrev RSl := V → Option Int → Option Int → Hp → VK → Prop
abbrev RMt := V → List V → Hp → VK → Prop
theorem u65 {k : Nat} {A : Around} (r : Room k A) : A.units + 65 < cLine := by have := r.un; omega

/-! ### readings that compute -/
def lk : L2.St → Nat → Option V
  | [], _ => none
  | x :: _, 0 => x
  | _ :: σ, n + 1 => lk σ n
theorem lk_get : ∀ {σ : L2.St} {i : Nat} {v : V}, lk σ i = some v → σ[i]? = some (some v)
  | [], _, _, h => nomatch h
  | x :: _, 0, v, h => by
    have h' : x = some v := h
    rw [h']
    rfl
  | _ :: σ, n + 1, v, h => lk_get (σ := σ) (i := n) h
def mV (i : Nat) : TE := fun σ H Q => match lk σ i with
  | some v => Q v H
  | none => False
theorem mV_ok {i : Nat} {σ : L2.St} {H : Hp} {Q : VK} (h : mV i σ H Q) : tVar i σ H Q := by
  unfold mV at h
  cases e : lk σ i with
  | none => rw [e] at h; exact h.elim
  | some v => rw [e] at h; exact ⟨v, lk_get e, h⟩
def rOr (r s : R2) : R2 := fun x y H Q => r x y H Q ∨ s x y H Q
/-- two ints -/
def mI (c : Int → Int → Prop) (f : Int → Int → V) : R2 := fun x y H Q => match x, y with
  | .int i, .int j => c i j ∧ Q (f i j) H
  | _, _ => False
def mI0 (f : Int → Int → V) : R2 := fun x y H Q => match x, y with
  | .int i, .int j => Q (f i j) H
  | _, _ => False
def hAdd (K : PySem.W.Frag) : R2 := fun x y H Q => rCat x y H Q ∨ rCatA K x y H Q
def mAdd (K : PySem.W.Frag) : R2 := fun x y H Q => match x, y with
  | .int i, .int j => Q (.int (i + j)) H
  | .str a, .str b => a.length + b.length ≤ sizeLine ∧ Q (.str (a ++ b)) H
  | .ref a, .ref b => hAdd K (.ref a) (.ref b) H Q
  | _, _ => False
def mSub : R2 := mI0 fun i j => .int (i - j)
def mMul : R2 := fun x y H Q => match x, y with
  | .int i, .int j => CMul i j ∧ Q (.int (i * j)) H
  | .ref a, .int j => rRep (.ref a) (.int j) H Q
  | _, _ => False
def mFdiv : R2 := mI CDivW fun i j => .int (i / j)
def mMod : R2 := mI (fun _ j => 0 < j) fun i j => .int (i % j)
def mPow : R2 := mI CPow fun i j => .int (i ^ j.toNat)
def mShl : R2 := mI CPow fun i j => .int (i * 2 ^ j.toNat)
def mShr : R2 := mI (fun _ j => 0 ≤ j) fun i j => .int (i / 2 ^ j.toNat)
def mLt : R2 := mI0 fun i j => .bl (decide (i < j))
def mLe : R2 := mI0 fun i j => .bl (decide (i ≤ j))
def mGt : R2 := mI0 fun i j => .bl (decide (j < i))
def mGe : R2 := mI0 fun i j => .bl (decide (j ≤ i))
def hEq (K : PySem.W.Frag) : R2 := rOr rEq (rEqD K)
def mEq (K : PySem.W.Frag) : R2 := fun x y H Q => match x, y with
  | .int i, .int j => Q (.bl (decide (i = j))) H
  | .str i, .str j => Q (.bl (decide (i = j))) H
  | .bl i, .bl j => Q (.bl (decide (i = j))) H
  | .non, .non => Q (.bl true) H
  | .str _, .non => Q (.bl false) H
  | .int _, .non => Q (.bl false) H
  | .non, .str _ => Q (.bl false) H
  | .non, .int _ => Q (.bl false) H
  | x, y => hEq K x y H Q
def hNe (K : PySem.W.Frag) : R2 := rOr rNe (rNeD K)
def mNe (K : PySem.W.Frag) : R2 := fun x y H Q => match x, y with
  | .int i, .int j => Q (.bl (!decide (i = j))) H
  | .str i, .str j => Q (.bl (!decide (i = j))) H
  | .bl i, .bl j => Q (.bl (!decide (i = j))) H
  | .non, .non => Q (.bl false) H
  | .str _, .non => Q (.bl true) H
  | .int _, .non => Q (.bl true) H
  | .non, .str _ => Q (.bl true) H
  | .non, .int _ => Q (.bl true) H
  | x, y => hNe K x y H Q
def mIsN : R2 := fun x y H Q => match y with
  | .non => Q (.bl (match x with | .non => true | _ => false)) H
  | _ => False
def mNotN : R2 := fun x y H Q => match y with
  | .non => Q (.bl (match x with | .non => false | _ => true)) H
  | _ => False
def mNeg : V → Hp → VK → Prop := fun x H Q => match x with
  | .int i => Q (.int (-i)) H
  | _ => False
/-- a Bool is wanted -/
def toB (Q : Bool → Hp → Prop) (x : V) (H : Hp) : Prop := match x with
  | .bl b => Q b H
  | _ => False
def mTest (t : TE) : TT := fun σ H Q => t σ H (toB Q)
def hTru (K : PySem.W.Frag) (x : V) (H : Hp) (Q : Bool → Hp → Prop) : Prop := ∃ k, TruV K x H k ∧ Q k H
def mTr (K : PySem.W.Frag) (t : TE) : TT := fun σ H Q => t σ H fun x H1 => match x with
  | .bl b => Q b H1
  | .int i => Q (i != 0) H1
  | .non => Q false H1
  | x => hTru K x H1 Q
def toV (Q : Bool → Hp → Prop) : VK := fun x H => match x with
  | .bl b => Q b H
  | _ => False
def mAndV (ta tb : TE) : TE := fun σ H Q => ta σ H (toB fun c H1 => if c = true then tb σ H1 Q else Q (.bl false) H1)
def mOrV (ta tb : TE) : TE := fun σ H Q => ta σ H (toB fun c H1 => if c = true then Q (.bl true) H1 else tb σ H1 Q)
def mNotV (ta : TE) : TE := fun σ H Q => ta σ H (toB fun c H1 => Q (.bl (!c)) H1)
def mInt : RCall := fun xs H Q => match xs with
  | [.int i] => Q (.int i) H
  | [.bl b] => Q (.int (if b then 1 else 0)) H
  | _ => False
def mPart (t : TE) : TO := fun σ H Q => t σ H fun x H1 => match x with
  | .int i => Q (some i) H1
  | _ => False
/-- an if, its test known: the ways -/
def Br (b : Bool) (t u : TS) (D : Ends) (σ : L2.St) (H : Hp) : Prop := if b = true then t D σ H else u D σ H
def BrE (b : Bool) (t u : TE) (Q : VK) (σ : L2.St) (H : Hp) : Prop := if b = true then t σ H Q else u σ H Q
def mIf (c : TT) (t u : TS) : TS := fun D σ H => c σ H fun b H1 => Br b t u D σ H1
def mIfE (c : TT) (t u : TE) : TE := fun σ H Q => c σ H fun b H1 => BrE b t u Q σ H1
def mAug (i : Nat) (te : TE) (r : R2) : TS := fun D σ H => match lk σ i with
  | some x => te σ H fun y H1 => r x y H1 fun z H2 => D.nx (σ.set i (some z)) H2
  | none => False
def uSl (K : PySem.W.Frag) : RSl := fun x lo hi H Q => rSlL K x lo hi H Q ∨ rSlA K x lo hi H Q ∨ rSlS x lo hi H Q
def uIn (K : PySem.W.Frag) : R2 := rOr (rIn K false) (rInD K)
def uNin (K : PySem.W.Frag) : R2 := rOr (rIn K true) (rNotInD K)
def hLen (K : PySem.W.Frag) : RCall := fun xs H Q => ∃ x n, xs = [x] ∧ LenV K x H n ∧ Q (.int (n : Nat)) H
def hListOf (K : PySem.W.Frag) : RCall := fun xs H Q => ∃ p ys, xs = [.ref p] ∧ (SqL K H p ys ∨ SqT K H p ys) ∧ ∀ l, H l = none → Q (.ref l) (upd H l (.lst ys))
def hTupOf (K : PySem.W.Frag) : RCall := fun xs H Q => ∃ p ys, xs = [.ref p] ∧ ((SqL K H p ys ∧ ∀ l, H l = none → Q (.ref l) (upd H l (.tup ys))) ∨ (SqT K H p ys ∧ Q (.ref p) H))
/-- repr of data -/
def hRepr (K : PySem.W.Frag) : RCall := fun xs H Q => ∃ x d, xs = [x] ∧ Dp K H x d ∧ d.showable = true ∧ d.hasDict = false ∧ d.depth ≤ 60 ∧ d.shown.length ≤ sizeLine ∧ Q (.str d.shown) H
def mAbs : RCall := fun xs H Q => match xs with
  | [.int i] => Q (.int (if i < 0 then -i else i)) H
  | _ => False

/-! ### their rules -/
section
variable {X : Cx}
theorem PE.weak {e : Expr} {t t' : TE} (h : PE X e t) (w : ∀ σ H Q, t' σ H Q → t σ H Q) : PE X e t' := ⟨fun pins s σ H Q I hw => h.run pins s σ H Q I (w σ H Q hw)⟩
theorem PT.weak {e : Expr} {t t' : TT} (h : PT X e t) (w : ∀ σ H Q, t' σ H Q → t σ H Q) : PT X e t' := ⟨fun pins s σ H Q I hw => h.run pins s σ H Q I (w σ H Q hw)⟩
theorem PS.weak {st : Stmt} {t t' : TS} (h : PS X st t) (w : ∀ D σ H, t' D σ H → t D σ H) : PS X st t' := ⟨fun pins s σ H D I hw => h.run pins s σ H D I (w D σ H hw)⟩
theorem OpR.weak {f : Value → Value → Sem Value} {r r' : R2} (h : OpR X f r) (w : ∀ x y H Q, r' x y H Q → r x y H Q) : OpR X f r' := fun pins s σ H x y v u Q I a b hw => h pins s σ H x y v u Q I a b (w x y H Q hw)
theorem OpR.or {f : Value → Value → Sem Value} {r s : R2} (h1 : OpR X f r) (h2 : OpR X f s) : OpR X f (rOr r s) := fun pins sh σ H x y v u Q I a b h => h.elim (h1 pins sh σ H x y v u Q I a b) (h2 pins sh σ H x y v u Q I a b)
theorem CallR.weak {f : Value} {r r' : RCall} (h : CallR X f r) (w : ∀ xs H Q, r' xs H Q → r xs H Q) : CallR X f r' := fun pins s σ H xs us Q I a hw => h pins s σ H xs us Q I a (w xs H Q hw)
theorem SlR.or {r s : RSl} (h1 : SlR X r) (h2 : SlR X s) : SlR X (fun x lo hi H Q => r x lo hi H Q ∨ s x lo hi H Q) := fun pins sh σ H x v vl vu lo hi sl Q I rx hs pl pu h =>
  h.elim (h1 pins sh σ H x v vl vu lo hi sl Q I rx hs pl pu) (h2 pins sh σ H x v vl vu lo hi sl Q I rx hs pl pu)
/-- the name in slot i -/
theorem pn (i : Nat) {x : Str} {pos : Pos} (hN : X.N[i]? = some x := by rfl) (hv : Vis X.env.scope x := by first | exact Or.inl rfl | exact Or.inr (Or.inl rfl) | exact Or.inr (Or.inr rfl)) (hd : (x == ("__debug__" : Str)) = false := by decide)
    (hcd : (x == ("__classdict__" : Str)) = false := by decide) : PE X (.Name x pos) (mV i) := PE.weak (pe_var hN hv hd hcd) fun _ _ _ h => mV_ok h
theorem mI_ok {c : Int → Int → Prop} {f : Int → Int → V} {x y : V} {H : Hp} {Q : VK} (h : mI c f x y H Q) : rI c f x y H Q := by
  cases x <;> cases y <;> first | exact h.elim | exact ⟨_, _, rfl, rfl, h.1, h.2⟩
theorem mI0_ok {f : Int → Int → V} {x y : V} {H : Hp} {Q : VK} (h : mI0 f x y H Q) : rI0 f x y H Q := by
  cases x <;> cases y <;> first | exact h.elim | exact ⟨_, _, rfl, rfl, h⟩
theorem o_add : OpR X (binaryOp .Add) (mAdd X.K) := OpR.weak (OpR.or op_add (OpR.or op_add_str (OpR.or op_cat op_catA))) fun x y H Q h => by
  cases x <;> cases y <;> first | exact h.elim | exact .inl ⟨_, _, rfl, rfl, h⟩ | exact .inr (.inl ⟨_, _, rfl, rfl, h.1, h.2⟩) | exact .inr (.inr h)
theorem o_sub : OpR X (binaryOp .Sub) mSub := OpR.weak op_sub fun _ _ _ _ h => mI0_ok h
theorem o_mul : OpR X (binaryOp .Mult) mMul := OpR.weak (OpR.or op_mul op_rep) fun x y H Q h => by
  cases x <;> cases y <;> first | exact h.elim | exact .inl ⟨_, _, rfl, rfl, h.1, h.2⟩ | exact .inr h
theorem o_fdiv : OpR X (binaryOp .FloorDiv) mFdiv := OpR.weak op_fdivW fun _ _ _ _ h => mI_ok h
theorem o_mod : OpR X (binaryOp .Mod) mMod := OpR.weak op_mod fun _ _ _ _ h => mI_ok h
theorem o_pow : OpR X (binaryOp .Pow) mPow := OpR.weak op_pow fun _ _ _ _ h => mI_ok h
theorem o_shl : OpR X (binaryOp .LShift) mShl := OpR.weak op_shl fun _ _ _ _ h => mI_ok h
theorem o_shr : OpR X (binaryOp .RShift) mShr := OpR.weak op_shr fun _ _ _ _ h => mI_ok h
theorem o_lt : OpR X (compareOp .Lt) mLt := OpR.weak op_lt fun _ _ _ _ h => mI0_ok h
theorem o_le : OpR X (compareOp .LtE) mLe := OpR.weak op_le fun _ _ _ _ h => mI0_ok h
theorem o_gt : OpR X (compareOp .Gt) mGt := OpR.weak op_gt fun _ _ _ _ h => mI0_ok h
theorem o_ge : OpR X (compareOp .GtE) mGe := OpR.weak op_ge fun _ _ _ _ h => mI0_ok h
theorem dec_of {α β : Type} [DecidableEq α] [DecidableEq β] (f : α → β) (inj : ∀ a b, f a = f b → a = b) (a b : α) : decide (f a = f b) = decide (a = b) := by
  by_cases h : a = b
  · rw [h, decide_eq_true rfl, decide_eq_true rfl]
  · rw [decide_eq_false h, decide_eq_false fun e => h (inj a b e)]
theorem o_eq (hu : X.A.units + 64 < cLine) : OpR X (compareOp .Eq) (mEq X.K) := OpR.weak (OpR.or op_eq (op_eqD hu)) fun x y H Q h => by
  cases x <;> cases y <;>
    first
      | exact h
      | exact .inl ⟨rfl, by rw [dec_of V.int fun a b e => V.int.inj e]; exact h⟩
      | exact .inl ⟨rfl, by rw [dec_of V.str fun a b e => V.str.inj e]; exact h⟩
      | exact .inl ⟨rfl, by rw [dec_of V.bl fun a b e => V.bl.inj e]; exact h⟩
      | exact .inl ⟨rfl, h⟩
theorem o_ne (hu : X.A.units + 64 < cLine) : OpR X (compareOp .NotEq) (mNe X.K) := OpR.weak (OpR.or op_ne (op_neD hu)) fun x y H Q h => by
  cases x <;> cases y <;>
    first
      | exact h
      | exact .inl ⟨rfl, by rw [dec_of V.int fun a b e => V.int.inj e]; exact h⟩
      | exact .inl ⟨rfl, by rw [dec_of V.str fun a b e => V.str.inj e]; exact h⟩
      | exact .inl ⟨rfl, by rw [dec_of V.bl fun a b e => V.bl.inj e]; exact h⟩
      | exact .inl ⟨rfl, h⟩
theorem o_isN : OpR X (compareOp .Is) mIsN := OpR.weak op_isN fun x y H Q h => by
  cases y <;> first | exact h.elim | (refine ⟨rfl, ?_⟩; cases x <;> exact h)
theorem o_notN : OpR X (compareOp .IsNot) mNotN := OpR.weak op_notN fun x y H Q h => by
  cases y <;> first | exact h.elim | (refine ⟨rfl, ?_⟩; cases x <;> exact h)
theorem o_in (hu : X.A.units + 65 < cLine) : OpR X (compareOp .In) (uIn X.K) := OpR.or op_in_seq (op_inD hu)
theorem o_nin (hu : X.A.units + 65 < cLine) : OpR X (compareOp .NotIn) (uNin X.K) := OpR.or op_notIn_seq (op_notInD hu)
theorem o_neg : UnR X (unaryOp .USub) mNeg := fun pins s σ H x v Q I r h => un_neg pins s σ H x v Q I r (by
  cases x <;> first | exact h.elim | exact ⟨_, rfl, h⟩)
theorem o_sl : SlR X (uSl X.K) := SlR.or sl_list (SlR.or sl_tupA sl_str)
theorem toB_ok {Q : Bool → Hp → Prop} {x : V} {H : Hp} (h : toB Q x H) : ∃ k, x = .bl k ∧ Q k H := by
  cases x <;> first | exact h.elim | exact ⟨_, rfl, h⟩
theorem toB_eq (Q : Bool → Hp → Prop) : toB Q = fun x H => ∃ k, x = .bl k ∧ Q k H := by
  funext x H
  refine propext ⟨toB_ok, fun h => ?_⟩
  obtain ⟨k, rfl, q⟩ := h
  exact q
theorem m_test {e : Expr} {t : TE} (h : PT X e (tTest t)) : PT X e (mTest t) := PT.weak h fun σ H Q q => by
  unfold mTest at q
  rw [toB_eq] at q
  exact q
theorem tru_eq {K : PySem.W.Frag} (Q : Bool → Hp → Prop) : (fun (x : V) (H1 : Hp) => match x with
  | .bl b => Q b H1
  | .int i => Q (i != 0) H1
  | .non => Q false H1
  | x => hTru K x H1 Q) = fun x H' => ∃ k, TruV K x H' k ∧ Q k H' := by
  funext x H
  refine propext ?_
  cases x <;>
    first
      | exact Iff.rfl
      | exact ⟨fun h => ⟨_, rfl, h⟩, fun ⟨k, e, q⟩ => by cases (show k = _ from e); exact q⟩
theorem p_truth {a : Expr} {ta : TE} (h : PE X a ta) (he : ∀ whole, isTrue a X.env whole = (do let v ← whole; standAt a.pos; holding [v] (truthy v))) : PT X a (mTr X.K ta) := PT.weak (pt_truth h he) fun σ H Q q => by
  unfold mTr at q
  rw [tru_eq] at q
  exact q
theorem p_or {op : BoolOp} {a b : Expr} {rest : List Expr} {ta tb : TE} {pos : Pos} (ha : PE X a ta) (hb : PE X (.BoolOp .Or (b :: rest) pos) tb) : PE X (.BoolOp .Or (a :: b :: rest) pos) (mOrV ta tb) := PE.weak (pe_or ha hb) fun σ H Q q => by
  unfold mOrV at q
  rw [toB_eq] at q
  exact q
theorem p_and {a b : Expr} {rest : List Expr} {ta tb : TE} {pos : Pos} (ha : PE X a ta) (hb : PE X (.BoolOp .And (b :: rest) pos) tb) : PE X (.BoolOp .And (a :: b :: rest) pos) (mAndV ta tb) := PE.weak (pe_and ha hb) fun σ H Q q => by
  unfold mAndV at q
  rw [toB_eq] at q
  exact q
theorem p_not {a : Expr} {ta : TE} {pos : Pos} (ha : PE X a ta) : PE X (.UnaryOp .Not a pos) (mNotV ta) := PE.weak (pe_not ha) fun σ H Q q => by
  unfold mNotV at q
  rw [toB_eq] at q
  exact q
theorem p_if {c : Expr} {a b : List Stmt} {tc : TT} {t u : TS} {pos : Pos} (hc : PT X c tc) (ha : PSs X a t) (hb : PSs X b u) : PS X (.If c a b pos) (mIf tc t u) := ps_if hc ha hb
theorem p_ifE {c a b : Expr} {tA : TT} {ta tb : TE} {pos : Pos} (hc : PT X c tA) (ha : PE X a ta) (hb : PE X b tb) : PE X (.IfExp c a b pos) (mIfE tA ta tb) := pe_ifExp hc ha hb
theorem part_eq (Q : Option Int → Hp → Prop) : (fun (x : V) (H1 : Hp) => match x with
  | .int i => Q (some i) H1
  | _ => False) = fun x H1 => ∃ i, x = .int i ∧ Q (some i) H1 := by
  funext x H
  refine propext ?_
  cases x <;>
    first
      | exact ⟨fun h => ⟨_, rfl, h⟩, fun ⟨k, e, q⟩ => by cases e; exact q⟩
      | exact ⟨fun h => False.elim h, fun ⟨k, e, q⟩ => nomatch e⟩
theorem p_some {e : Expr} {t : TE} (h : PE X e t) : PO X (some e) (mPart t) := by
  have q := po_some h
  have e2 : tPart t = mPart t := by
    funext σ H Q
    unfold tPart mPart
    rw [part_eq]
  rw [e2] at q
  exact q
theorem p_aug {i : Nat} {x : Str} {op : Operator} {e : Expr} {te : TE} {r : R2} {pos pos' : Pos} (hN : X.N.Nodup) (hi : X.N[i]? = some x) (hx : Loc X.env.scope x) (he : PE X e te) (ho : PIp X op r)
    (hd : (x == ("__debug__" : Str)) = false := by decide) (hcd : (x == ("__classdict__" : Str)) = false := by decide)
    (hf : X.fn x = true ∨ X.env.scope.names.lookup x = some .local := by first | exact .inl rfl | exact .inr rfl | assumption) : PS X (.AugAssign (.Name x pos') op e pos) (mAug i te r) := PS.weak (ps_aug hN hi hx he ho (hf := hf)) fun D σ H q => by
  unfold mAug at q
  cases e2 : lk σ i with
  | none =>
    rw [e2] at q
    exact q.elim
  | some v =>
    rw [e2] at q
    exact ⟨v, lk_get e2, q⟩
def mIAdd : R2 := fun x y H Q => match x, y with
  | .int i, .int j => Q (.int (i + j)) H
  | .str a, .str b => a.length + b.length ≤ sizeLine ∧ Q (.str (a ++ b)) H
  | _, _ => False
theorem i_add : PIp X .Add mIAdd := fun pins s σ H x y v u Q I rx ry h => by
  cases x <;> cases y <;>
    first
      | exact h.elim
      | exact iop_add pins s σ H _ _ v u Q I rx ry ⟨_, _, rfl, rfl, h⟩
      | exact iop_add_str pins s σ H _ _ v u Q I rx ry ⟨_, _, rfl, rfl, h.1, h.2⟩
theorem i_sub : PIp X .Sub mSub := fun pins s σ H x y v u Q I rx ry h => iop_sub pins s σ H x y v u Q I rx ry (mI0_ok h)
theorem c_len : CallR X (.builtin "len") (hLen X.K) := call_len
theorem c_int : CallR X (.type "int") mInt := CallR.weak call_int1 fun xs H Q h => by
  unfold mInt at h
  split at h
  · exact .inl ⟨_, rfl, h⟩
  · exact .inr ⟨_, rfl, h⟩
  · exact h.elim
theorem c_abs : CallR X (.builtin "abs") mAbs := CallR.weak call_abs fun xs H Q h => by
  unfold mAbs at h
  split at h
  · exact ⟨_, rfl, h⟩
  · exact h.elim
theorem c_list : CallR X (.type "list") (hListOf X.K) := call_list_of
theorem c_tuple : CallR X (.type "tuple") (hTupOf X.K) := call_tuple_of
theorem c_isi : CallR X (.builtin "isinstance") (rIsi X.K) := call_isi
theorem c_repr (hg : X.A.guards = some []) (hu : X.A.units + 64 < cLine) : CallR X (.builtin "repr") (hRepr X.K) := by
  intro pins s σ H xs us Q I r h
  obtain ⟨x, d, rfl, hd, hs, hn, hz, hl, q⟩ := h
  obtain ⟨u, rfl, rx⟩ := vals1 r
  obtain ⟨as, rd⟩ := Dp.reads I d x u hd rx
  cases hd with
  | int i =>
    obtain ⟨t, rfl⟩ := rx
    refine PySem.P.repr_of_int ?_ ⟨.str _, H, I.tok _, ⟨_, rfl⟩, ?_⟩
    · exact of_decide_eq_true (by simpa [PyData.showable] using hs)
    · simpa [PyData.shown] using q
  | lst h1 h2 =>
    cases rx
    exact repr_of_reads' rd hs (PyData.noDict_hsm hn) hg (by omega) (fun _ _ e => e) (fun h' u tk hk => ⟨.str _, H, I.kept hk, ⟨_, rfl⟩, q⟩) hl
  | tup h1 h2 =>
    cases rx
    exact repr_of_reads' rd hs (PyData.noDict_hsm hn) hg (by omega) (fun _ _ e => e) (fun h' u tk hk => ⟨.str _, H, I.kept hk, ⟨_, rfl⟩, q⟩) hl
  | non =>
    cases rx
    exact PySem.P.repr_of_none ⟨.str _, H, I.tok _, ⟨_, rfl⟩, by simpa [PyData.shown] using q⟩
  | bl b =>
    cases rx
    exact PySem.P.repr_of_bool ⟨.str _, H, I.tok _, ⟨_, rfl⟩, by simpa [PyData.shown] using q⟩
  | str z =>
    obtain ⟨t, rfl⟩ := rx
    exact PySem.P.repr_of_str ⟨.str _, H, I.tok _, ⟨_, rfl⟩, by simpa [PyData.shown] using q⟩ (by simpa [PyData.shown] using hl)
end

/-! ### defs that are called where no repr is under way -/
structure FnG (P : Program) (w : World) (K : PySem.W.Frag) (mg : Str → Option Value) (base : Heap) (k : Nat) (f : Addr) (fd : FuncData) (ps : List Str) (sp : Sp) : Prop where
  len : ∀ vs H Q E, sp vs H Q E → vs.length = ps.length
  go : ∀ (A : Around) (outer : List Env) (s : Shared) (H : Hp) (args : Args) (us : List Value) (vs : List V) (Q : VK) (E : XK), Room k A → A.guards = some [] →
    Env0 P w K mg base A outer s H → BindsTo s fd args (ps.zip us) → Vals vs us → sp vs H Q E → codeAny (model P w) A (.call (.ref f) args) (CR CX0 outer P w H s Q E) s
section
variable {P : Program} {w : World} {K : PySem.W.Frag} {mg : Str → Option Value} {base : Heap}
theorem okG {x qual : Str} {st : Stmt} {f : Addr} {fd : FuncData} {N ps : List Str} {k : Nat} {sp : Sp} (F : Fun K x qual st f fd) (S : FnScope N ps (defScope st))
    (len : ∀ vs H Q E, sp vs H Q E → vs.length = ps.length)
    (body : ∀ (cdv : Value) (A : Around) (outer : List Env) (s : Shared) (H : Hp) (vs : List V) (Q : VK) (E : XK), Room k (A.deeper (envOfC qual (defScope st) s.heap.objs.size f cdv)) →
      (A.deeper (envOfC qual (defScope st) s.heap.objs.size f cdv)).guards = some [] → sp vs H Q E →
      ∃ t, PSs (cxOf CX0 P w K mg base N qual (defScope st) f cdv A outer s H E).nox (defBody st) t ∧ t { nx := fun _ H' => Q .non H', rt := Q } (start N vs) H) :
    FnG P w K mg base (k + 1) f fd ps sp := by
  obtain ⟨oc, od, kV, doc, pm, an, cdv, ct, osl, efd, lk, hcd⟩ := F.ex
  subst efd
  refine ⟨len, fun A outer s H args us vs Q E hr hg e0 hb r hsp => ?_⟩
  have hl := len vs H Q E hsp
  have hkeep : ∀ b o, base.get? b = some o → s.heap.get? b = some o := fun b o e => (e0.bs b o e).1
  have KX : K.In s.heap := e0.mod.kin.keeps hkeep
  have lim : s.heap.NoLimit := e0.mod.nolimit.keeps hkeep
  have kinds : ∀ y ∈ ps.zip us, (defScope st).names.lookup y.1 = some .local ∨
      ((defScope st).names.lookup y.1 = some .cell ∧ ((cellsFrom (s.heap.objs.size + 1) (defScope st).names []).lookup y.1).isSome = true) := fun ⟨n, v⟩ hy => by
    rcases S.par n (List.of_mem_zip hy).1 with q | q
    · exact .inl q
    · exact .inr ⟨q, PySem.W.cellsFrom_some _ _ _ (.inl q)⟩
  refine codeAny_call_function hr.depth (KX f _ lk) rfl S.co S.gen rfl (PySem.W.codeRec_of KX hcd) (hb _ _ _ _ ?_)
  refine wpAny_newFunctionEnv_cells S.kind kinds fun env he s1 x => ?_
  subst he
  refine ⟨lim.keeps x.toInCall.keep, codeAny_func ?_⟩
  obtain ⟨t, ht0, hq⟩ := body cdv A outer s H vs Q E (hr.deeper _) hg hsp
  have ht := ht0.nox
  have I := inv_start (CX := CX0) (E := E) S hr.hd e0 hl r x
  refine wpAny_mono (ht.run [] s1 (start N vs) H _ I hq) (fun fl s' hs => ?_) fun _ _ hs => hs
  have fin : ∀ (σ' : L2.St) (H' : Hp) (v : V) (u : Value), Inv (cxOf CX0 P w K mg base N qual (defScope st) f cdv A outer s H E) [] σ' H' s' → RelV v u → Q v H' → CE outer P w H s Q u s' :=
    fun σ' H' v u J rv q => ⟨v, H', J.os, J.bare, J.base, J.hok, rv, q⟩
  cases fl with
  | next =>
    obtain ⟨σ', H', J, q⟩ := hs
    exact fin σ' H' .non .none J rfl q
  | ret u =>
    obtain ⟨v, σ', H', J, rv, q⟩ := hs
    exact fin σ' H' v u J rv q
  | brk => exact hs.elim fun _ z => z.elim fun _ z => False.elim z.2
  | cont => exact hs.elim fun _ z => z.elim fun _ z => False.elim z.2
theorem FnG.of {k : Nat} {f : Addr} {fd : FuncData} {ps : List Str} {sp : Sp} (F : FnOk P w K mg base CX0 k f fd ps sp) : FnG P w K mg base k f fd ps sp :=
  ⟨F.len, fun A outer s H args us vs Q E hr _ => F.run A outer s H args us vs Q E hr⟩
end
section
variable {X : Cx} {k : Nat} {f : Addr} {fd : FuncData} {ps : List Str} {sp : Sp} {dvs : List V} {ds : List Value} {E : XK} {x : Str} {p pos : Pos} {e : Expr} {es : List Expr} {t : TA}
theorem runG {pins : List (Addr × Obj)} {σ : L2.St} {H : Hp} {s : Shared} {Q : VK} {us : List Value} {vs : List V} (F : FnG X.prog X.w X.K X.mg X.base k f fd ps sp) (hg : X.A.guards = some []) (hr : Room k X.A)
    (hb : Binds X.K fd ps ds) (hd : Vals dvs ds) (I : Inv X pins σ H s) (r : Vals vs us) (h : sp (vs ++ dvs) H Q E) : wpAny (model X.prog X.w) X.A (call (.ref f) us) (EP X pins σ Q) X.xe s := by
  have r2 : Vals (vs ++ dvs) (us ++ ds) := r.append hd
  have hl : (us ++ ds).length = ps.length := r2.length.symm.trans (F.len _ _ _ _ h)
  refine wpAny_call (codeAny_mono (F.go X.A X.stack s H ⟨us, []⟩ (us ++ ds) (vs ++ dvs) Q E hr hg I.env0 (hb s us I.kIn hl) r2 h) fun rr s' hq => ?_)
  match rr, hq with
  | .error _, hq => exact False.elim hq
  | .ok (.ret u), hq => exact I.after hq
  | .ok .next, hq => exact False.elim hq
  | .ok .brk, hq => exact False.elim hq
  | .ok .cont, hq => exact False.elim hq
theorem pe_callG (F : FnG X.prog X.w X.K X.mg X.base k f fd ps sp) (hg : X.A.guards = some []) (hr : Room k X.A) (hgl : Gl X x) (hm : X.mg x = some (.ref f)) (hk : PySem.W.keepIn X.K (.ref f) = true)
    (hb : Binds X.K fd ps ds) (hd : Vals dvs ds) (ha : PA X (e :: es) t) (hdb : (x == ("__debug__" : Str)) = false := by decide)
    (he : starEach (e :: es) X.env = (false, eval e X.env) :: starEach es X.env := by rfl) (hpl : (backTo pos (starEach es X.env)).any (·.1) = false := by rfl) :
    PE X (.Call (.Name x p) (e :: es) [] pos) (tCall sp dvs E t) :=
  ⟨fun pins s σ H Q I h => wpAny_Call_Name_kw (ld_glob I hgl hm
    (PySem.W.callWith_K (h₀ := X.base) I.ok.mod.kin hk (thn (ha.run pos pins s σ H _ I h) fun us s1 ⟨vs, H1, I1, r, q⟩ => ⟨I1.kIn, runG F hg hr hb hd I1 r q⟩) he hpl) hdb)⟩
end

/-! ### the law's end -/
/-- an abstract heap that knows the script alone -/
theorem law_callG {P : Program} {w : World} {K : PySem.W.Frag} {mg mb : Str → Option Value} {k : Nat} {fa a : Addr} {fd : FuncData} {x : Str} {sp : Sp} {s₁ : Shared} {vs : List Value} {ns : List Int}
    (KX : K.In s₁.heap) (hns : s₁.heap.Ns mainGlobals mg) (hb : s₁.heap.Ns builtinsNs mb) (hbb : ∀ x : Str, x ≠ "__name__" → mb x = bootBuiltins x) (hlim : s₁.heap.NoLimit) (hg : s₁.gens = #[])
    (ha : s₁.heap.get? a = some { cls := .type "list", data := .seq vs.toArray }) (hi : IntsAre vs ns) (hl : ns.length ≤ sizeLine) (hr : Room k callerA)
    (F : ∀ base : Heap, K.In base → base.Ns mainGlobals mg → FnG P w K mg base k fa fd [x] sp) (hbind : ∀ (s : Shared) (u : Value), BindsTo s fd ⟨[u], []⟩ [(x, u)])
    (hsp : ∀ H : Hp, Only H → SqL K H a (ns.map V.int) → sp [.ref a] H (fun v _ => v = .bl true) fun _ _ _ => False) :
    codeAny (model P w) callerA (.call (.ref fa) ⟨[.ref a], []⟩) (fun r s' => r = .ok (.ret (.bool true)) ∧ OldK s₁.heap s'.heap ∧ s'.os = s₁.os ∧ AllBare s'.gens) s₁ := by
  have rv := vals_ints hi
  have lenV := hi.length
  -- whatever is known: nothing, or the script alone
  suffices core : ∀ H : Hp, Only H → SqL K H a (ns.map V.int) → HOk P w H s₁.heap → (∀ b, H b ≠ none → b = a ∧ K.lookup a = none) →
      codeAny (model P w) callerA (.call (.ref fa) ⟨[.ref a], []⟩) (fun r s' => r = .ok (.ret (.bool true)) ∧ OldK s₁.heap s'.heap ∧ s'.os = s₁.os ∧ AllBare s'.gens) s₁ by
    cases hk : K.lookup a with
    | some o =>
      have e := KX a o hk
      rw [ha] at e
      cases e
      refine core (fun _ => none) (fun _ => .inl rfl) (.inr ⟨_, vs.toArray, _, hk, rfl, rfl, rfl, ?_, ?_⟩) (fun b u z => ?_) (fun b z => absurd rfl z)
      · rw [List.size_toArray, lenV]
        exact hl
      · simpa using rv
      · exact nomatch (show (none : Option HO) = some u from z)
    | none =>
      refine core (upd (fun _ => none) a (.frz { cls := .type "list", data := .seq vs.toArray } (.lst (ns.map V.int)))) (fun b => ?_) (.inl (.inr ⟨_, upd_same⟩)) (fun b u z => ?_) (fun b z => ?_)
      · by_cases hb : b = a
        · subst hb
          exact .inr ⟨_, _, upd_same⟩
        · exact .inl (upd_ne hb)
      · by_cases hb : b = a
        · subst hb
          rw [upd_same] at z
          cases z
          exact ⟨ha, by rw [List.length_map]; exact hl, vs, _, rv, ha⟩
        · rw [upd_ne hb] at z
          cases z
      · by_cases hb : b = a
        · exact ⟨hb, hk⟩
        · exact absurd (upd_ne hb) z
  intro H hO hS hok hA
  have notDict : ∀ {b : Addr} {o : Obj} {es : Array DictEntry} {ep : Nat}, s₁.heap.get? b = some o → o.data = .dict es ep → H b = none := fun {b o es ep} e d => by
    cases q : H b with
    | none => rfl
    | some u =>
      obtain ⟨e', _⟩ := hA b (by rw [q]; exact nofun)
      subst e'
      rw [ha] at e
      cases e
      exact nomatch (show Data.seq vs.toArray _ = Data.dict es ep from d)
  have nsB : ∀ {b : Addr} {m : Str → Option Value}, s₁.heap.Ns b m → (hidT s₁.heap H).Ns b m := fun ⟨o, es, ep, e, d, r⟩ => ⟨o, es, ep, hidT_get e (notDict e d), d, r⟩
  have inB : K.In (hidT s₁.heap H) := fun b o e => hidT_get (KX b o e) (by
    cases q : H b with
    | none => rfl
    | some u =>
      obtain ⟨e', hk⟩ := hA b (by rw [q]; exact nofun)
      subst e'
      rw [hk] at e
      cases e)
  have md : Mod K mg (hidT s₁.heap H) := ⟨inB, nsB hns, ⟨mb, nsB hb, hbb⟩, hlim.elim fun mc h => ⟨mc, nsB h.1, h.2⟩⟩
  have none_in : ∀ b : Addr, b ∉ frs [] := fun b hb => absurd (show b ∈ ([] : List Addr) from hb) List.not_mem_nil
  have e0 : Env0 P w K mg (hidT s₁.heap H) callerA [] s₁ H := ⟨rfl, md, fun b o e => of_hidT e, Nat.le_of_eq (hidT_size _ _), trivial, fun b hb => absurd hb (none_in b), hok, .of_eq hg⟩
  refine codeAny_mono ((F _ inB (nsB hns)).go callerA [] s₁ H ⟨[.ref a], []⟩ [.ref a] [.ref a] _ _ hr rfl e0 (hbind s₁ (.ref a)) (.cons rfl .nil) (hsp H hO hS)) fun rr s' h => ?_
  match rr, h with
  | .error _, h => exact False.elim h
  | .ok .next, h => exact False.elim h
  | .ok .brk, h => exact False.elim h
  | .ok .cont, h => exact False.elim h
  | .ok (.ret u), h =>
    obtain ⟨v, H', os, bare, un, hok', r', q⟩ := h
    cases (show v = .bl true from q)
    cases (show u = Value.bool true from r')
    refine ⟨rfl, OldK.of_keep fun b o e => ?_, os, bare⟩
    rcases hO b with z | ⟨ob, xs, z⟩
    · exact un.keep b o e z (none_in b) List.not_mem_nil
    · obtain ⟨e1, _⟩ := hok b _ z
      obtain ⟨e2, _⟩ := hok' b _ (un.frzs b ob _ z)
      rw [e] at e1
      cases e1
      exact e2
theorem walk_ofG {l : PySem.W.OpenLaw} {n k : Nat} {q : Program} {loose : List Str} {XP : (Str → Option Value) → Heap → Prop} {YP : World → Heap → Prop} {d : DefRec} {K : Params → PySem.W.Frag} {sp : PySem.W.Frag → Sp} {x : Str}
    (hn : l.most = some n) (hn2 : n ≤ sizeLine) (hdf : d.params.defaults = []) (hr : Room k callerA) (hY : ∀ (w : World) (h : Heap), YP w h → (K w.params).In h)
    (F : ∀ (w : World) (mg : Str → Option Value) (fa : Addr) (h : Heap), (K w.params).In h → h.Ns mainGlobals mg → mg d.name = some (.ref fa) →
      ∃ fd : FuncData, (∀ (s : Shared) (u : Value), BindsTo s fd ⟨[u], []⟩ [(x, u)]) ∧
        ∀ base : Heap, (K w.params).In base → base.Ns mainGlobals mg → FnG l.prog w (K w.params) mg base k fa fd [x] (sp (K w.params)))
    (hsp : ∀ (K : PySem.W.Frag) (H : Hp) (a : Addr) (ns : List Int), ns.length ≤ n → (∀ z ∈ ns, Builtin.Int.intBits z ≤ 1048576) → Only H → SqL K H a (ns.map V.int) → sp K [.ref a] H (fun v _ => v = .bl true) fun _ _ _ => False) :
    PySem.W.WalkO q loose XP YP l.row.toRowW d [] (fun f vs => PySem.call f vs) := by
  refine Att.attach_callB hn hdf fun w s₀ s₁ mg mb fa o pm cd doc a vs ns G Y ho hd hcd hmg hobj hints hlen hbits hg => ?_
  have KX := hY w _ Y
  obtain ⟨fd, hb, hF⟩ := F w mg fa _ KX G.T.g hmg
  exact law_callG KX G.T.g G.T.b G.T.builtins G.T.nolimit hg hobj hints (Nat.le_trans hlen hn2) hr hF hb fun H hO hS => hsp _ H a ns hlen hbits hO hS


/-- a for over what J walks -/
def Lp (J : It) (g : TG) (tb : TS) (D : Ends) (σ : L2.St) (H : Hp) : Prop := ∃ W : Nat → Nat → L2.St → Hp → Prop, (∃ m, W 0 m σ H) ∧ ∀ i m σ H, W i m σ H →
  (J.stop i H ∧ D.nx σ H) ∨
    (J.go i H ∧ ∃ N : L2.St → Hp → Prop, (∀ σ' H', N σ' H' → ∃ m', m' < m ∧ W (i + 1) m' σ' H') ∧ ∀ x H', J.yld i H x H' → g x σ H' fun σ2 H2 => tb { D with nx := N, ct := N, bk := D.nx } σ2 H2)
/-- a list made over what J walks -/
def Lc (J : It) (g : TG) (tt : TT) (te : TE) (vs : List Nat) (σ : L2.St) (H1 : Hp) (Q : VK) : Prop := ∀ D, H1 D = none → ∃ W : Nat → Nat → Hp → Prop, (∃ m, W 0 m (upd H1 D (.lst []))) ∧ ∀ i m H, W i m H →
  (J.stop i H ∧ Q (.ref D) H) ∨
    (J.go i H ∧ ∃ Nx : Hp → Prop, (∀ H', Nx H' → ∃ m', m' < m ∧ W (i + 1) m' H') ∧ ∀ x H', J.yld i H x H' → g x (wipe σ vs) H' fun σ2 H2 => wipe σ2 vs = wipe σ vs ∧ tt σ2 H2 fun b H3 =>
      if b = true then te σ2 H3 fun y H4 => ∃ acc, H4 D = some (.lst acc) ∧ acc.length < sizeLine ∧ Nx (upd H4 D (.lst (acc ++ [y]))) else Nx H3)
/-- what is asked of range's ends -/
def rg1 (xs : List V) (P : Int → Prop) : Prop := match xs with
  | [.int j] => -(2 ^ 62) ≤ j ∧ j < 2 ^ 62 ∧ P j
  | _ => False
def rg2 (xs : List V) (P : Int → Int → Prop) : Prop := match xs with
  | [.int i, .int j] => (-(2 ^ 62) ≤ i ∧ i < 2 ^ 62 ∧ -(2 ^ 62) ≤ j ∧ j < 2 ^ 62) ∧ P i j
  | _ => False
theorem rg1_ok {xs : List V} {P : Int → Prop} : rg1 xs P = ∃ j : Int, xs = [.int j] ∧ -(2 ^ 62) ≤ j ∧ j < 2 ^ 62 ∧ P j := by
  refine propext ⟨fun h => ?_, fun ⟨j, e, h⟩ => by subst e; exact h⟩
  unfold rg1 at h
  split at h
  · exact ⟨_, rfl, h⟩
  · exact h.elim
theorem rg2_ok {xs : List V} {P : Int → Int → Prop} : rg2 xs P = ∃ i j : Int, xs = [.int i, .int j] ∧ (-(2 ^ 62) ≤ i ∧ i < 2 ^ 62 ∧ -(2 ^ 62) ≤ j ∧ j < 2 ^ 62) ∧ P i j := by
  refine propext ⟨fun h => ?_, fun ⟨i, j, e, h⟩ => by subst e; exact h⟩
  unfold rg2 at h
  split at h
  · exact ⟨_, _, rfl, h⟩
  · exact h.elim
def jR1 (ta : TA) : TI := fun σ H R => ta σ H fun vs H1 => rg1 vs fun j => R (Itr 0 j.toNat) H1
def jR2 (ta : TA) : TI := fun σ H R => ta σ H fun vs H1 => rg2 vs fun i j => R (Itr i (j - i).toNat) H1
/-- a list that is walked: its place -/
def isL (K : PySem.W.Frag) (x : V) (H : Hp) (P : Addr → Prop) : Prop := ∃ a, x = .ref a ∧ (∃ xs, SqL K H a xs) ∧ P a
def isT (K : PySem.W.Frag) (x : V) (H : Hp) (P : Addr → Prop) : Prop := ∃ a, x = .ref a ∧ (∃ xs, SqT K H a xs) ∧ P a
def jL (K : PySem.W.Frag) (tl : TE) : TI := fun σ H R => tl σ H fun x H1 => isL K x H1 fun a => R (Itl K a) H1
def jT (K : PySem.W.Frag) (tl : TE) : TI := fun σ H R => tl σ H fun x H1 => isT K x H1 fun a => R (Itt K a) H1
theorem jR1_eq (ta : TA) : iRng1 ta = jR1 ta := by
  funext σ H R
  unfold iRng1 jR1
  simp only [rg1_ok]
theorem jR2_eq (ta : TA) : iRng2 ta = jR2 ta := by
  funext σ H R
  unfold iRng2 jR2
  simp only [rg2_ok]
section
variable {X : Cx}
theorem i_rng1 {tg : Expr} {ta : TA} {iter : Expr} (h : PI X tg iter (iRng1 ta)) : PI X tg iter (jR1 ta) := jR1_eq ta ▸ h
theorem i_rng2 {tg : Expr} {ta : TA} {iter : Expr} (h : PI X tg iter (iRng2 ta)) : PI X tg iter (jR2 ta) := jR2_eq ta ▸ h
theorem i_list {tg iter : Expr} {tl : TE} (h : PI X tg iter (iList X.K tl)) : PI X tg iter (jL X.K tl) := h
theorem i_tup {tg iter : Expr} {tl : TE} (h : PI X tg iter (iTup X.K tl)) : PI X tg iter (jT X.K tl) := h
end
/-- several targets -/
def mGn : TGs := fun vs σ H Q => match vs with
  | [] => Q σ H
  | _ => False
def mGc (t : TG) (u : TGs) : TGs := fun vs σ H Q => match vs with
  | v :: r => t v σ H fun σ' H' => u r σ' H' Q
  | [] => False
theorem mGn_eq : gNil = mGn := by
  funext vs σ H Q
  refine propext ?_
  cases vs with
  | nil => exact ⟨fun h => h.2, fun h => ⟨rfl, h⟩⟩
  | cons v r => exact ⟨fun h => (nomatch h.1), fun h => False.elim h⟩
theorem mGc_eq (t : TG) (u : TGs) : gCons t u = mGc t u := by
  funext vs σ H Q
  refine propext ?_
  cases vs with
  | nil => exact ⟨fun ⟨v, r, e, _⟩ => (nomatch e), fun h => False.elim h⟩
  | cons v r => exact ⟨fun ⟨v, r, e, h⟩ => by cases e; exact h, fun h => ⟨v, r, rfl, h⟩⟩
theorem p_gnil {X : Cx} : PGs X [] mGn := mGn_eq ▸ pgs_nil
theorem p_gcons {X : Cx} {a : Expr} {as : List Expr} {t : TG} {u : TGs} (h1 : PG X a t) (h2 : PGs X as u) (hs : (assignEach (a :: as) X.env).map (·.2) = assign a X.env :: (assignEach as X.env).map (·.2) := by rfl) : PGs X (a :: as) (mGc t u) := mGc_eq t u ▸ pgs_cons h1 h2 hs
/-- a statement, then what is behind it, by a word of one's own between them -/
def mCut (t u : TS) : TS := fun D σ H => ∃ M : L2.St → Hp → Prop, t { D with nx := M } σ H ∧ ∀ σ' H', M σ' H' → u D σ' H'
theorem p_cut {X : Cx} {st : Stmt} {rest : List Stmt} {t u : TS} (h1 : PS X st t) (h2 : PSs X rest u) : PSs X (st :: rest) (mCut t u) where
  run := fun pins s σ H D I h => by
    obtain ⟨M, hm, hu⟩ := h
    have q1 := h1.run pins s σ H { D with nx := M } I hm
    refine wpAny_execs_cons (thn q1 ?_)
    intro fl s1 q
    cases fl with
    | next => exact q.elim fun σ' z => z.elim fun H' z => h2.run pins s1 σ' H' D z.1 (hu σ' H' z.2)
    | ret v => exact q
    | brk => exact q
    | cont => exact q
theorem h_cut {t u : TS} {D : Ends} {σ : L2.St} {H : Hp} (M : L2.St → Hp → Prop) (h1 : t { D with nx := M } σ H) (h2 : ∀ σ' H', M σ' H' → u D σ' H') : mCut t u D σ H := ⟨M, h1, h2⟩
/-- a new list, a new tuple -/
def newL (xs : List V) (H : Hp) (Q : VK) : Prop := xs.length ≤ sizeLine ∧ ∀ p, H p = none → Q (.ref p) (upd H p (.lst xs))
def newT (xs : List V) (H : Hp) (Q : VK) : Prop := xs.length ≤ sizeLine ∧ ∀ p, H p = none → Q (.ref p) (upd H p (.tup xs))
def vl (o : Option V) (Q : VK) (H : Hp) : Prop := match o with
  | some v => Q v H
  | none => False
/-- targets: a tuple's items -/
def tupl (K : PySem.W.Frag) (n : Nat) (t : TGs) (v : V) (σ : L2.St) (H : Hp) (Q : L2.St → Hp → Prop) : Prop := ∃ a xs, v = .ref a ∧ SqT K H a xs ∧ xs.length = n ∧ t xs σ H Q
def asV (v : V) (vs : List V) (P : List V → Prop) : Prop := match vs with
  | x :: r => P r
  | [] => False
def truK (K : PySem.W.Frag) (Q : Bool → Hp → Prop) (x : V) (H1 : Hp) : Prop := match x with
  | .bl b => Q b H1
  | .int i => Q (i != 0) H1
  | .non => Q false H1
  | x => hTru K x H1 Q
def partK (Q : Option Int → Hp → Prop) (x : V) (H1 : Hp) : Prop := match x with
  | .int i => Q (some i) H1
  | _ => False
section
variable {K : PySem.W.Frag} {σ : L2.St} {H H0 : Hp} {S : List Addr} {L : List (Addr × Ent)} {I : List (V × PyData)} {Q : VK} {QB : Bool → Hp → Prop} {QL : List V → Hp → Prop} {QS : L2.St → Hp → Prop} {QO : Option Int → Hp → Prop} {QH : Hp → Prop} {D : Ends} {v x y : V} {ta tb te tl tc : TE} {t u c tt : TT} {A : TA} {t1 t2 ts : TS} {r : R2} {g : TG} {gs : TGs} {vs : List V} {is : List Nat} {i j : Int} {a b : Str} {p q : Bool} {n : Nat} {rc : RCall} {rm : RMt} {rs : RSl} {T : String} {lo hi : TO} {wi : TI}
theorem a_lk0 : lk (none :: σ) 0 = none := rfl
theorem a_lk1 : lk (some v :: σ) 0 = some v := rfl
theorem a_lkS {o : Option V} : lk (o :: σ) (n + 1) = lk σ n := rfl
theorem a_V : mV n σ H Q = vl (lk σ n) Q H := rfl
theorem a_vl : vl (some v) Q H = Q v H := rfl
theorem a_c : tC v σ H Q = Q v H := rfl
theorem a_op : tOp r ta tb σ H Q = ta σ H fun x H1 => tb σ H1 fun y H2 => r x y H2 Q := rfl
theorem a_un {ru : V → Hp → VK → Prop} : tUn ru ta σ H Q = ta σ H fun x H1 => ru x H1 Q := rfl
theorem a_test : mTest ta σ H QB = ta σ H (toB QB) := rfl
theorem a_toB : toB QB (.bl p) H = QB p H := rfl
theorem a_tr : mTr K ta σ H QB = ta σ H (truK K QB) := rfl
theorem a_trB : truK K QB (.bl p) H = QB p H := rfl
theorem a_trI : truK K QB (.int i) H = QB (i != 0) H := rfl
theorem a_trN : truK K QB .non H = QB false H := rfl
theorem a_and : tAnd t u σ H QB = t σ H fun c H1 => if c = true then u σ H1 QB else QB false H1 := rfl
theorem a_or : tOr t u σ H QB = t σ H fun c H1 => if c = true then QB true H1 else u σ H1 QB := rfl
theorem a_not : tNot t σ H QB = t σ H fun c H1 => QB (!c) H1 := rfl
theorem a_andV : mAndV ta tb σ H Q = ta σ H (toB fun c H1 => if c = true then tb σ H1 Q else Q (.bl false) H1) := rfl
theorem a_orV : mOrV ta tb σ H Q = ta σ H (toB fun c H1 => if c = true then Q (.bl true) H1 else tb σ H1 Q) := rfl
theorem a_notV : mNotV ta σ H Q = ta σ H (toB fun c H1 => Q (.bl (!c)) H1) := rfl
theorem a_ifE : mIfE t ta tb σ H Q = t σ H fun b H1 => BrE b ta tb Q σ H1 := rfl
theorem a_nil : tNil σ H QL = QL [] H := rfl
theorem a_cons : tCons ta A σ H QL = ta σ H fun x H1 => A σ H1 fun xs H2 => QL (x :: xs) H2 := rfl
theorem a_lst : tLst A σ H Q = A σ H fun xs H1 => newL xs H1 Q := rfl
theorem a_tup : tTup A σ H Q = A σ H fun xs H1 => newT xs H1 Q := rfl
theorem a_call {sp : Sp} {dvs : List V} {E : XK} : tCall sp dvs E A σ H Q = A σ H fun vs H1 => sp (vs ++ dvs) H1 Q E := rfl
theorem a_CB : tCB rc A σ H Q = A σ H fun vs H1 => rc vs H1 Q := rfl
theorem a_BM : tBM K T rm ta A σ H Q = ta σ H fun x H1 => tyV K T x H1 ∧ A σ H1 fun xs H2 => rm x xs H2 Q := rfl
theorem a_BM0 : tBM0 K T rm ta σ H Q = ta σ H fun x H1 => tyV K T x H1 ∧ rm x [] H1 Q := rfl
theorem a_sl : tSl rs te lo hi σ H Q = te σ H fun x H1 => lo σ H1 fun l H2 => hi σ H2 fun u H3 => rs x l u H3 Q := rfl
theorem a_part : mPart te σ H QO = te σ H (partK QO) := rfl
theorem a_partI : partK QO (.int i) H = QO (some i) H := rfl
theorem a_noPart : tNoPart σ H QO = QO none H := rfl
theorem a_seq : tSeq t1 t2 D σ H = t1 { D with nx := t2 D } σ H := rfl
theorem a_next : tNext D σ H = D.nx σ H := rfl
theorem a_brk : tBreak D σ H = D.bk σ H := rfl
theorem a_cont : tCont D σ H = D.ct σ H := rfl
theorem a_asg : tAsg te g D σ H = te σ H fun x H1 => g x σ H1 D.nx := rfl
theorem a_name : gName n v σ H QS = QS (σ.set n (some v)) H := rfl
theorem a_drop : tDrop te D σ H = te σ H fun _ H1 => D.nx σ H1 := rfl
theorem a_ret : tRet te D σ H = te σ H D.rt := rfl
theorem a_retN : tRetN D σ H = D.rt .non H := rfl
theorem a_if : mIf t t1 t2 D σ H = t σ H fun b H1 => Br b t1 t2 D σ H1 := rfl
theorem a_aug : mAug n te r D σ H = vl (lk σ n) (fun x H => te σ H fun y H1 => r x y H1 fun z H2 => D.nx (σ.set n (some z)) H2) H := rfl
theorem a_for : tFor wi g ts D σ H = wi σ H fun J H1 => Lp J g ts D σ H1 := rfl
theorem a_lc {vs : List Nat} : tLc wi g tt te vs σ H Q = wi σ H fun J H1 => Lc J g tt te vs σ H1 Q := rfl
theorem a_jR1 {R : It → Hp → Prop} : jR1 A σ H R = A σ H fun vs H1 => rg1 vs fun j => R (Itr 0 j.toNat) H1 := rfl
theorem a_jR2 {R : It → Hp → Prop} : jR2 A σ H R = A σ H fun vs H1 => rg2 vs fun i j => R (Itr i (j - i).toNat) H1 := rfl
theorem a_jL {R : It → Hp → Prop} : jL K tl σ H R = tl σ H fun x H1 => isL K x H1 fun a => R (Itl K a) H1 := rfl
theorem a_jT {R : It → Hp → Prop} : jT K tl σ H R = tl σ H fun x H1 => isT K x H1 fun a => R (Itt K a) H1 := rfl
theorem a_rg1 {P : Int → Prop} : rg1 [.int i] P = (-(2 ^ 62) ≤ i ∧ i < 2 ^ 62 ∧ P i) := rfl
theorem a_rg2 {P : Int → Int → Prop} : rg2 [.int i, .int j] P = ((-(2 ^ 62) ≤ i ∧ i < 2 ^ 62 ∧ -(2 ^ 62) ≤ j ∧ j < 2 ^ 62) ∧ P i j) := rfl
theorem a_gsub {to ti : TE} {ts : TSet} : gSub to ti ts v σ H QS = to σ H fun o H1 => ti σ H1 fun i H2 => ts o i v H2 fun H3 => QS σ H3 := rfl
theorem a_yes : tYes σ H QB = QB true H := rfl
theorem a_addI : mAdd K (.int i) (.int j) H Q = Q (.int (i + j)) H := rfl
theorem a_addS : mAdd K (.str a) (.str b) H Q = (a.length + b.length ≤ sizeLine ∧ Q (.str (a ++ b)) H) := rfl
theorem a_addR {a b : Addr} : mAdd K (.ref a) (.ref b) H Q = hAdd K (.ref a) (.ref b) H Q := rfl
theorem a_iaddI : mIAdd (.int i) (.int j) H Q = Q (.int (i + j)) H := rfl
theorem a_iaddS : mIAdd (.str a) (.str b) H Q = (a.length + b.length ≤ sizeLine ∧ Q (.str (a ++ b)) H) := rfl
theorem a_sub : mSub (.int i) (.int j) H Q = Q (.int (i - j)) H := rfl
theorem a_mulI : mMul (.int i) (.int j) H Q = (CMul i j ∧ Q (.int (i * j)) H) := rfl
theorem a_mulR {a : Addr} : mMul (.ref a) (.int j) H Q = rRep (.ref a) (.int j) H Q := rfl
theorem a_fdiv : mFdiv (.int i) (.int j) H Q = (CDivW i j ∧ Q (.int (i / j)) H) := rfl
theorem a_mod : mMod (.int i) (.int j) H Q = (0 < j ∧ Q (.int (i % j)) H) := rfl
theorem a_pow : mPow (.int i) (.int j) H Q = (CPow i j ∧ Q (.int (i ^ j.toNat)) H) := rfl
theorem a_shl : mShl (.int i) (.int j) H Q = (CPow i j ∧ Q (.int (i * 2 ^ j.toNat)) H) := rfl
theorem a_shr : mShr (.int i) (.int j) H Q = (0 ≤ j ∧ Q (.int (i / 2 ^ j.toNat)) H) := rfl
theorem a_lt : mLt (.int i) (.int j) H Q = Q (.bl (decide (i < j))) H := rfl
theorem a_le : mLe (.int i) (.int j) H Q = Q (.bl (decide (i ≤ j))) H := rfl
theorem a_gt : mGt (.int i) (.int j) H Q = Q (.bl (decide (j < i))) H := rfl
theorem a_ge : mGe (.int i) (.int j) H Q = Q (.bl (decide (j ≤ i))) H := rfl
theorem a_neg : mNeg (.int i) H Q = Q (.int (-i)) H := rfl
theorem a_EqI : mEq K (.int i) (.int j) H Q = Q (.bl (decide (i = j))) H := rfl
theorem a_EqS : mEq K (.str a) (.str b) H Q = Q (.bl (decide (a = b))) H := rfl
theorem a_EqB : mEq K (.bl p) (.bl q) H Q = Q (.bl (decide (p = q))) H := rfl
theorem a_EqNN : mEq K .non .non H Q = Q (.bl true) H := rfl
theorem a_EqIN : mEq K (.int i) (.non) H Q = Q (.bl false) H := rfl
theorem a_EqNI : mEq K (.non) (.int i) H Q = Q (.bl false) H := rfl
theorem a_EqSN : mEq K (.str a) (.non) H Q = Q (.bl false) H := rfl
theorem a_EqNS : mEq K (.non) (.str a) H Q = Q (.bl false) H := rfl
theorem a_EqRR {a b : Addr} : mEq K (.ref a) (.ref b) H Q = hEq K (.ref a) (.ref b) H Q := rfl
theorem a_EqRN {a : Addr} : mEq K (.ref a) .non H Q = hEq K (.ref a) .non H Q := rfl
theorem a_EqNR {a : Addr} : mEq K .non (.ref a) H Q = hEq K .non (.ref a) H Q := rfl
theorem a_NeI : mNe K (.int i) (.int j) H Q = Q (.bl (!decide (i = j))) H := rfl
theorem a_NeS : mNe K (.str a) (.str b) H Q = Q (.bl (!decide (a = b))) H := rfl
theorem a_NeB : mNe K (.bl p) (.bl q) H Q = Q (.bl (!decide (p = q))) H := rfl
theorem a_NeNN : mNe K .non .non H Q = Q (.bl false) H := rfl
theorem a_NeIN : mNe K (.int i) (.non) H Q = Q (.bl true) H := rfl
theorem a_NeNI : mNe K (.non) (.int i) H Q = Q (.bl true) H := rfl
theorem a_NeSN : mNe K (.str a) (.non) H Q = Q (.bl true) H := rfl
theorem a_NeNS : mNe K (.non) (.str a) H Q = Q (.bl true) H := rfl
theorem a_NeRR {a b : Addr} : mNe K (.ref a) (.ref b) H Q = hNe K (.ref a) (.ref b) H Q := rfl
theorem a_NeRN {a : Addr} : mNe K (.ref a) .non H Q = hNe K (.ref a) .non H Q := rfl
theorem a_NeNR {a : Addr} : mNe K .non (.ref a) H Q = hNe K .non (.ref a) H Q := rfl
theorem a_isNN : mIsN .non .non H Q = Q (.bl true) H := rfl
theorem a_isNI : mIsN (.int i) .non H Q = Q (.bl false) H := rfl
theorem a_isNS : mIsN (.str a) .non H Q = Q (.bl false) H := rfl
theorem a_isNB : mIsN (.bl p) .non H Q = Q (.bl false) H := rfl
theorem a_isNR {a : Addr} : mIsN (.ref a) .non H Q = Q (.bl false) H := rfl
theorem a_notNN : mNotN .non .non H Q = Q (.bl false) H := rfl
theorem a_notNI : mNotN (.int i) .non H Q = Q (.bl true) H := rfl
theorem a_notNS : mNotN (.str a) .non H Q = Q (.bl true) H := rfl
theorem a_notNB : mNotN (.bl p) .non H Q = Q (.bl true) H := rfl
theorem a_notNR {a : Addr} : mNotN (.ref a) .non H Q = Q (.bl true) H := rfl
theorem a_intI : mInt [.int i] H Q = Q (.int i) H := rfl
theorem a_intB : mInt [.bl p] H Q = Q (.int (if p then 1 else 0)) H := rfl
theorem a_abs : mAbs [.int i] H Q = Q (.int (if i < 0 then -i else i)) H := rfl
theorem a_gnil : mGn [] σ H QS = QS σ H := rfl
theorem a_gcons : mGc g gs (v :: vs) σ H QS = g v σ H fun σ' H' => gs vs σ' H' QS := rfl
end
section
variable {K : PySem.W.Frag} {σ : L2.St} {H H0 : Hp} {S : List Addr} {L : List (Addr × Ent)} {I : List (V × PyData)} {Q : VK} {D : Ends} {v x y : V} {i : Int} {g : TG} {tb : TS} {tt : TT} {te : TE} {vs : List Nat}
/-! ### ledgers made -/
theorem Led.cons {a : Addr} {e : Ent} (hL : Led K H0 S H L I) (h : EntAt K H a e) (hn : a ∉ L.map (·.1)) : Led K H0 S H ((a, e) :: L) I where
  nd := by
    rw [List.map_cons, List.nodup_cons]
    exact ⟨hn, hL.nd⟩
  at_ := fun n b x q => by
    cases n with
    | zero =>
      have q' := Option.some.inj q
      cases q'
      exact h
    | succ n => exact hL.at_ n b x q
  im := hL.im
  kp := hL.kp
theorem Led.mk1 {a : Addr} {e : Ent} (h : EntAt K H a e) : Led K H S H [(a, e)] [] := Led.cons Led.start h List.not_mem_nil
theorem Led.mk2 {a b : Addr} {o u : HO} (h1 : H a = some o) (h2 : H b = some u) (hn : a ≠ b) : Led K H S H [(a, .raw o), (b, .raw u)] [] :=
  Led.cons (Led.mk1 (e := .raw u) h2) (e := .raw o) h1 fun m => hn (List.mem_singleton.mp m)
theorem Led.imm (h : Led K H0 S H L I) (n : Nat) {d : PyData} (e : I[n]? = some (v, d)) : Im K H v d := h.im n v d e
theorem h_imm (n : Nat) (h : Led K H0 S H L I) {d : PyData} (e : I[n]? = some (v, d)) : Im K H v d := h.im n v d e
theorem Led.sqL (h : Led K H0 S H L I) (n : Nat) {a : Addr} {xs : List V} (e : L[n]? = some (a, .raw (.lst xs))) : SqL K H a xs := SqL.of (h.raw n e)
theorem Led.fr (h : Led K H0 S H L I) {p : Addr} (hp : H p = none) : H0 p = none ∨ p ∈ S := by
  by_cases m : p ∈ S
  · exact .inr m
  · exact .inl (fresh0 h.kp m hp)
/-- two entries stand apart -/
theorem Led.ne (h : Led K H0 S H L I) (n m : Nat) {a b : Addr} {e u : Ent} (h1 : L[n]? = some (a, e)) (h2 : L[m]? = some (b, u)) (hnm : n ≠ m) : a ≠ b := fun ab => by
  subst ab
  have r1 : (L.map (·.1))[n]? = some a := by
    rw [List.getElem?_map, h1]
    rfl
  have r2 : (L.map (·.1))[m]? = some a := by
    rw [List.getElem?_map, h2]
    rfl
  exact hnm (nd_ix h.nd r1 r2)
/-! ### the heap's operations -/
theorem h_lst (h : Led K H0 S H L I) {xs : List V} (z : xs.length ≤ sizeLine) (k : ∀ p H', (H0 p = none ∨ p ∈ S) → Led K H0 S H' ((p, .raw (.lst xs)) :: L) I → Q (.ref p) H') : newL xs H Q :=
  ⟨z, fun p hp => k p _ (h.fr hp) (h.alloc hp)⟩
theorem h_tup (h : Led K H0 S H L I) {xs : List V} {ds : List PyData} (z : xs.length ≤ sizeLine) (hd : Ims K H xs ds) (k : ∀ p H', Led K H0 S H' L ((.ref p, .tuple ds) :: I) → Q (.ref p) H') : newT xs H Q :=
  ⟨z, fun p hp => k p _ (h.allocT hp hd)⟩
theorem h_ixL (n : Nat) (h : Led K H0 S H L I) {a : Addr} {xs : List V} (e : L[n]? = some (a, .raw (.lst xs))) (hx : atI xs i = some v) (k : Q v H) : rIx K (.ref a) (.int i) H Q :=
  .inl ⟨a, xs, i, v, rfl, rfl, h.sqL n e, hx, k⟩
theorem h_ixQ {a : Addr} {xs : List V} (h : SqL K H a xs) (hx : atI xs i = some v) (k : Q v H) : rIx K (.ref a) (.int i) H Q := .inl ⟨a, xs, i, v, rfl, rfl, h, hx, k⟩
theorem at_nn {α : Type} {xs : List α} {i : Int} {v : α} (h0 : 0 ≤ i) (h : xs[i.toNat]? = some v) : atI xs i = some v := by
  have q := atI_nat h
  rw [Int.toNat_of_nonneg h0] at q
  exact q
theorem h_ixT {a : Addr} {ds : List PyData} {d : PyData} (hd : Im K H (.ref a) (.tuple ds)) (h0 : 0 ≤ i) (hx : ds[i.toNat]? = some d) (k : ∀ v, Im K H v d → Q v H) : rIx K (.ref a) (.int i) H Q := by
  cases hd with
  | tup hs ha =>
    obtain ⟨v, hv, hi⟩ := ha.get' hx
    exact .inr (.inl ⟨a, _, _, v, rfl, rfl, hs, at_nn h0 hv, k v hi⟩)
/-- a scalar of a tuple -/
def vOf : PyData → Option V
  | .none => some .non
  | .bool b => some (.bl b)
  | .int i => some (.int i)
  | .str x => some (.str x)
  | _ => none
theorem Im.vOf {d : PyData} (h : Im K H v d) : ∀ u, vOf d = some u → v = u := fun u e => by
  cases h <;> first | exact Option.some.inj e | exact nomatch e
theorem h_ixTv {a : Addr} {ds : List PyData} {d : PyData} (hd : Im K H (.ref a) (.tuple ds)) (h0 : 0 ≤ i) (hx : ds[i.toNat]? = some d) (hv : Rs.vOf d = some v) (k : Q v H) : rIx K (.ref a) (.int i) H Q :=
  h_ixT hd h0 hx fun u hu => by rw [hu.vOf v hv]; exact k
theorem h_append (n : Nat) (h : Led K H0 S H L I) {a : Addr} {xs : List V} (e : L[n]? = some (a, .raw (.lst xs))) (hs : H0 a = none ∨ a ∈ S) (z : xs.length < sizeLine) (k : ∀ H', Led K H0 S H' (L.set n (a, .raw (.lst (xs ++ [y])))) I → Q .non H') : rAppend (.ref a) [y] H Q :=
  ⟨a, xs, y, rfl, rfl, h.raw n e, z, k _ (h.wr n e (fun b o q hb => by rw [upd_ne (by simpa using hb)]; exact q) (h.raw n e) rfl upd_same hs)⟩
theorem h_appendD (n : Nat) (h : Led K H0 S H L I) {a : Addr} {ds : List PyData} {d : PyData} (e : L[n]? = some (a, .dl ds)) (hd : Im K H y d) (hs : H0 a = none ∨ a ∈ S) (z : ds.length < sizeLine) (k : ∀ H', Led K H0 S H' (L.set n (a, .dl (ds ++ [d]))) I → Q .non H') : rAppend (.ref a) [y] H Q := by
  obtain ⟨xs, ha, hx⟩ := h.at_ n a _ e
  have hk : KBs H (upd H a (.lst (xs ++ [y]))) [a] := fun b o q hb => by rw [upd_ne (by simpa using hb)]; exact q
  have hN : NoT H [a] := NoT.one ha rfl
  exact ⟨a, xs, y, rfl, rfl, ha, by rw [hx.len]; exact z, k _ (h.wr n e hk ha rfl ⟨_, upd_same, (hx.keep hk hN).app (Ims.one (hd.keep hk hN))⟩ hs)⟩
theorem h_tyL {P : Prop} (n : Nat) (h : Led K H0 S H L I) {a : Addr} {xs : List V} (e : L[n]? = some (a, .raw (.lst xs))) (k : P) : tyV K "list" (.ref a) H ∧ P := ⟨.inl ⟨rfl, xs, h.sqL n e⟩, k⟩
theorem h_tyD {P : Prop} (n : Nat) (h : Led K H0 S H L I) {a : Addr} {ds : List PyData} (e : L[n]? = some (a, .dl ds)) (k : P) : tyV K "list" (.ref a) H ∧ P := by
  obtain ⟨xs, ha, hx⟩ := h.at_ n a _ e
  exact ⟨.inl ⟨rfl, xs, SqL.of ha⟩, k⟩
theorem h_tyS {P : Prop} {a : Str} (k : P) : tyV K "str" (.str a) H ∧ P := ⟨rfl, k⟩
theorem h_lenL (n : Nat) (h : Led K H0 S H L I) {a : Addr} {xs : List V} (e : L[n]? = some (a, .raw (.lst xs))) (k : Q (.int (xs.length : Nat)) H) : hLen K [.ref a] H Q := ⟨.ref a, _, rfl, .inl ⟨xs, h.sqL n e, rfl⟩, k⟩
theorem h_lenD (n : Nat) (h : Led K H0 S H L I) {a : Addr} {ds : List PyData} (e : L[n]? = some (a, .dl ds)) (k : Q (.int (ds.length : Nat)) H) : hLen K [.ref a] H Q := by
  obtain ⟨xs, ha, hx⟩ := h.at_ n a _ e
  exact ⟨.ref a, _, rfl, .inl ⟨xs, SqL.of ha, rfl⟩, by rw [hx.len]; exact k⟩
theorem h_lenQ {a : Addr} {xs : List V} (h : SqL K H a xs) (k : Q (.int (xs.length : Nat)) H) : hLen K [.ref a] H Q := ⟨.ref a, _, rfl, .inl ⟨xs, h, rfl⟩, k⟩
theorem h_lenT {a : Addr} {ds : List PyData} (h : Im K H (.ref a) (.tuple ds)) (k : Q (.int (ds.length : Nat)) H) : hLen K [.ref a] H Q := by
  cases h with
  | tup hs ha => exact ⟨.ref a, _, rfl, .inr ⟨_, hs, rfl⟩, by rw [ha.len]; exact k⟩
theorem h_lenS {z : Str} (h : z.length ≤ sizeLine) (k : Q (.int (z.length : Nat)) H) : hLen K [.str z] H Q := ⟨.str z, _, rfl, ⟨h, rfl⟩, k⟩
theorem h_setL {Q : Hp → Prop} (n : Nat) (h : Led K H0 S H L I) {a : Addr} {xs : List V} {m : Nat} (e : L[n]? = some (a, .raw (.lst xs))) (hs : H0 a = none ∨ a ∈ S) (hi : ixN xs.length i = some m) (k : ∀ H', Led K H0 S H' (L.set n (a, .raw (.lst (xs.set m v)))) I → Q H') : rSetL (.ref a) (.int i) v H Q :=
  ⟨a, xs, i, m, rfl, rfl, h.raw n e, hi, k _ (h.wr n e (fun b o q hb => by rw [upd_ne (by simpa using hb)]; exact q) (h.raw n e) rfl upd_same hs)⟩
theorem h_isL {a : Addr} {xs : List V} {P : Addr → Prop} (z : SqL K H a xs) (k : P a) : isL K (.ref a) H P := ⟨a, rfl, ⟨xs, z⟩, k⟩
theorem h_isLn {a : Addr} {xs : List V} {P : Addr → Prop} (n : Nat) (h : Led K H0 S H L I) (e : L[n]? = some (a, .raw (.lst xs))) (k : P a) : isL K (.ref a) H P := ⟨a, rfl, ⟨xs, h.sqL n e⟩, k⟩
theorem h_isLd {a : Addr} {ds : List PyData} {P : Addr → Prop} (n : Nat) (h : Led K H0 S H L I) (e : L[n]? = some (a, .dl ds)) (k : P a) : isL K (.ref a) H P := by
  obtain ⟨xs, ha, hx⟩ := h.at_ n a _ e
  exact ⟨a, rfl, ⟨xs, SqL.of ha⟩, k⟩
theorem h_isT {a : Addr} {ds : List PyData} {P : Addr → Prop} (h : Im K H (.ref a) (.tuple ds)) (k : P a) : isT K (.ref a) H P := by
  cases h with
  | tup hs ha => exact ⟨a, rfl, ⟨_, hs⟩, k⟩
theorem h_br {p : Prop} [Decidable p] {t u : TS} (h1 : p → t D σ H) (h2 : ¬ p → u D σ H) : Br (decide p) t u D σ H := by
  unfold Br
  by_cases h : p
  · rw [if_pos (decide_eq_true h)]
    exact h1 h
  · rw [if_neg (by rw [decide_eq_false h]; exact Bool.false_ne_true)]
    exact h2 h
theorem h_brn {p : Prop} [Decidable p] {t u : TS} (h1 : ¬ p → t D σ H) (h2 : p → u D σ H) : Br (!decide p) t u D σ H := by
  unfold Br
  by_cases h : p
  · rw [decide_eq_true h]
    exact iteF (h2 h)
  · rw [decide_eq_false h]
    exact iteT (h1 h)
theorem h_brb {b : Bool} {t u : TS} (h1 : b = true → t D σ H) (h2 : b = false → u D σ H) : Br b t u D σ H := by
  cases b
  · exact iteF (h2 rfl)
  · exact iteT (h1 rfl)
theorem h_brE {p : Prop} [Decidable p] {t u : TE} (h1 : p → t σ H Q) (h2 : ¬ p → u σ H Q) : BrE (decide p) t u Q σ H := by
  unfold BrE
  by_cases h : p
  · rw [if_pos (decide_eq_true h)]
    exact h1 h
  · rw [if_neg (by rw [decide_eq_false h]; exact Bool.false_ne_true)]
    exact h2 h
theorem h_brEb {b : Bool} {t u : TE} (h1 : b = true → t σ H Q) (h2 : b = false → u σ H Q) : BrE b t u Q σ H := by
  cases b
  · exact iteF (h2 rfl)
  · exact iteT (h1 rfl)
theorem h_brT {t u : TS} (h1 : t D σ H) : Br true t u D σ H := iteT h1
theorem h_brF {t u : TS} (h1 : u D σ H) : Br false t u D σ H := iteF h1
theorem h_brET {t u : TE} (h1 : t σ H Q) : BrE true t u Q σ H := iteT h1
theorem h_brEF {t u : TE} (h1 : u σ H Q) : BrE false t u Q σ H := iteF h1
theorem h_ite {p A B : Prop} [Decidable p] (h1 : p → A) (h2 : ¬ p → B) : if decide p = true then A else B := by
  by_cases h : p
  · rw [if_pos (decide_eq_true h)]
    exact h1 h
  · rw [if_neg (by rw [decide_eq_false h]; exact Bool.false_ne_true)]
    exact h2 h
theorem h_itn {p A B : Prop} [Decidable p] (h1 : ¬ p → A) (h2 : p → B) : if (!decide p) = true then A else B := by
  by_cases h : p
  · rw [decide_eq_true h]
    exact iteF (h2 h)
  · rw [decide_eq_false h]
    exact iteT (h1 h)
theorem h_itb {b : Bool} {A B : Prop} (h1 : b = true → A) (h2 : b = false → B) : if b = true then A else B := by
  cases b
  · exact iteF (h2 rfl)
  · exact iteT (h1 rfl)
/-! ### numbers -/
theorem cdiv_ok {i j : Int} (h1 : 0 < j) (h2 : j < 2 ^ 64) : CDivW i j := wide_div (b := 64) h1 (by omega) (by decide) (by decide)
theorem cmul_l {i j : Int} (h1 : -(2 ^ 64) < i) (h2 : i < 2 ^ 64) : CMul i j := .inl ⟨h1, h2⟩
theorem cmul_r {i j : Int} (h1 : -(2 ^ 64) < j) (h2 : j < 2 ^ 64) : CMul i j := .inr ⟨h1, h2⟩
theorem h_mr {P : Prop} {i j : Int} (h1 : -(2 ^ 64) < j) (h2 : j < 2 ^ 64) (k : P) : CMul i j ∧ P := ⟨.inr ⟨h1, h2⟩, k⟩
theorem h_ml {P : Prop} {i j : Int} (h1 : -(2 ^ 64) < i) (h2 : i < 2 ^ 64) (k : P) : CMul i j ∧ P := ⟨.inl ⟨h1, h2⟩, k⟩
theorem h_dv {P : Prop} {i j : Int} (h1 : 0 < j) (h2 : j < 2 ^ 64) (k : P) : CDivW i j ∧ P := ⟨cdiv_ok h1 h2, k⟩
theorem h_pw {P : Prop} {i j : Int} (h1 : 0 ≤ j) (h2 : j ≤ 1000000) (h3 : i.natAbs < 2 ^ 64) (k : P) : CPow i j ∧ P := ⟨⟨h1, h2, h3⟩, k⟩
theorem cpow_ok {i j : Int} (h1 : 0 ≤ j) (h2 : j ≤ 1000000) (h3 : i.natAbs < 2 ^ 64) : CPow i j := ⟨h1, h2, h3⟩
theorem ixN_nn {n : Nat} {i : Int} (h0 : 0 ≤ i) (h : i < n) : ixN n i = some i.toNat := by
  unfold ixN
  rw [if_pos h0, if_pos h]
theorem at_ints {ns : List Int} {i : Int} (h0 : 0 ≤ i) (h : i < ns.length) : atI (ns.map V.int) i = some (.int (ns.getD i.toNat 0)) := by
  have h2 : i.toNat < ns.length := by omega
  refine at_nn h0 ?_
  rw [List.getElem?_map, List.getElem?_eq_getElem h2, List.getD_eq_getElem?_getD, List.getElem?_eq_getElem h2]
  rfl
/-! ### loops -/
theorem lpR {lo : Int} {n : Nat} (Pv : Nat → L2.St → Hp → Prop) (h0 : Pv 0 σ H)
    (hs : ∀ i σ H, i < n → Pv i σ H → g (.int (lo + i)) σ H fun σ2 H2 => tb { D with nx := Pv (i + 1), ct := Pv (i + 1), bk := D.nx } σ2 H2) (hd : ∀ σ H, Pv n σ H → D.nx σ H) : Lp (Itr lo n) g tb D σ H :=
  for_range Pv h0 hs hd
theorem lpL {a : Addr} {xs : List V} (Pv : Nat → L2.St → Hp → Prop) (h0 : Pv 0 σ H) (hl : ∀ i σ H, i ≤ xs.length → Pv i σ H → SqL K H a xs)
    (hs : ∀ i x σ H, xs[i]? = some x → Pv i σ H → g x σ H fun σ2 H2 => tb { D with nx := Pv (i + 1), ct := Pv (i + 1), bk := D.nx } σ2 H2) (hd : ∀ σ H, Pv xs.length σ H → D.nx σ H) : Lp (Itl K a) g tb D σ H :=
  for_list Pv h0 hl hs hd
theorem lpT {a : Addr} {xs : List V} (Pv : Nat → L2.St → Hp → Prop) (h0 : Pv 0 σ H) (hl : ∀ i σ H, i ≤ xs.length → Pv i σ H → SqT K H a xs)
    (hs : ∀ i x σ H, xs[i]? = some x → Pv i σ H → g x σ H fun σ2 H2 => tb { D with nx := Pv (i + 1), ct := Pv (i + 1), bk := D.nx } σ2 H2) (hd : ∀ σ H, Pv xs.length σ H → D.nx σ H) : Lp (Itt K a) g tb D σ H :=
  for_tup Pv h0 hl hs hd
/-- a list made; Pv: the list's place, the turn, the heap -/
theorem lcR {lo : Int} {n : Nat} (h : Led K H0 S H L I) (Pv : Addr → Nat → Hp → Prop) (h0 : ∀ p H', H0 p = none ∨ p ∈ S → Led K H0 S H' ((p, .raw (.lst [])) :: L) I → Pv p 0 H')
    (hs : ∀ p i H, i < n → Pv p i H → g (.int (lo + i)) (wipe σ vs) H fun σ2 H2 => wipe σ2 vs = wipe σ vs ∧ tt σ2 H2 fun b H3 =>
      if b = true then te σ2 H3 fun y H4 => ∃ acc, H4 p = some (.lst acc) ∧ acc.length < sizeLine ∧ Pv p (i + 1) (upd H4 p (.lst (acc ++ [y]))) else Pv p (i + 1) H3)
    (hd : ∀ p H, Pv p n H → Q (.ref p) H) : Lc (Itr lo n) g tt te vs σ H Q := fun p hp => lc_range (Pv p) (h0 p _ (h.fr hp) (h.alloc hp)) (hs p) (hd p)
theorem lcL {a : Addr} {xs : List V} (h : Led K H0 S H L I) (Pv : Addr → Nat → Hp → Prop) (h0 : ∀ p H', H0 p = none ∨ p ∈ S → Led K H0 S H' ((p, .raw (.lst [])) :: L) I → Pv p 0 H')
    (hl : ∀ p i H, i ≤ xs.length → Pv p i H → SqL K H a xs)
    (hs : ∀ p i x H, xs[i]? = some x → Pv p i H → g x (wipe σ vs) H fun σ2 H2 => wipe σ2 vs = wipe σ vs ∧ tt σ2 H2 fun b H3 =>
      if b = true then te σ2 H3 fun y H4 => ∃ acc, H4 p = some (.lst acc) ∧ acc.length < sizeLine ∧ Pv p (i + 1) (upd H4 p (.lst (acc ++ [y]))) else Pv p (i + 1) H3)
    (hd : ∀ p H, Pv p xs.length H → Q (.ref p) H) : Lc (Itl K a) g tt te vs σ H Q := fun p hp => lc_list (Pv p) (h0 p _ (h.fr hp) (h.alloc hp)) (hl p) (hs p) (hd p)
theorem lcT {a : Addr} {xs : List V} (h : Led K H0 S H L I) (Pv : Addr → Nat → Hp → Prop) (h0 : ∀ p H', H0 p = none ∨ p ∈ S → Led K H0 S H' ((p, .raw (.lst [])) :: L) I → Pv p 0 H')
    (hl : ∀ p i H, i ≤ xs.length → Pv p i H → SqT K H a xs)
    (hs : ∀ p i x H, xs[i]? = some x → Pv p i H → g x (wipe σ vs) H fun σ2 H2 => wipe σ2 vs = wipe σ vs ∧ tt σ2 H2 fun b H3 =>
      if b = true then te σ2 H3 fun y H4 => ∃ acc, H4 p = some (.lst acc) ∧ acc.length < sizeLine ∧ Pv p (i + 1) (upd H4 p (.lst (acc ++ [y]))) else Pv p (i + 1) H3)
    (hd : ∀ p H, Pv p xs.length H → Q (.ref p) H) : Lc (Itt K a) g tt te vs σ H Q := fun p hp => lc_tup (Pv p) (h0 p _ (h.fr hp) (h.alloc hp)) (hl p) (hs p) (hd p)
/-- the element comes to the list -/
theorem h_lcE {p : Addr} {acc : List V} {P : Hp → Prop} (n : Nat) (h : Led K H0 S H L I) (e : L[n]? = some (p, .raw (.lst acc))) (hs : H0 p = none ∨ p ∈ S) (z : acc.length < sizeLine)
    (k : ∀ H', Led K H0 S H' (L.set n (p, .raw (.lst (acc ++ [y])))) I → P H') : ∃ acc, H p = some (.lst acc) ∧ acc.length < sizeLine ∧ P (upd H p (.lst (acc ++ [y]))) :=
  ⟨acc, h.raw n e, z, k _ (h.wr n e (fun b o q hb => by rw [upd_ne (by simpa using hb)]; exact q) (h.raw n e) rfl upd_same hs)⟩
theorem h_lcD {p : Addr} {ds : List PyData} {d : PyData} {P : Hp → Prop} (n : Nat) (h : Led K H0 S H L I) (e : L[n]? = some (p, .dl ds)) (hd : Im K H y d) (hs : H0 p = none ∨ p ∈ S) (z : ds.length < sizeLine)
    (k : ∀ H', Led K H0 S H' (L.set n (p, .dl (ds ++ [d]))) I → P H') : ∃ acc, H p = some (.lst acc) ∧ acc.length < sizeLine ∧ P (upd H p (.lst (acc ++ [y]))) := by
  obtain ⟨xs, ha, hx⟩ := h.at_ n p _ e
  have hk : KBs H (upd H p (.lst (xs ++ [y]))) [p] := fun b o q hb => by rw [upd_ne (by simpa using hb)]; exact q
  have hN : NoT H [p] := NoT.one ha rfl
  exact ⟨xs, ha, by rw [hx.len]; exact z, k _ (h.wr n e hk ha rfl ⟨_, upd_same, (hx.keep hk hN).app (Ims.one (hd.keep hk hN))⟩ hs)⟩
theorem h_accL {p : Addr} {acc : List V} (n : Nat) (h : Led K H0 S H L I) (e : L[n]? = some (p, .raw (.lst acc))) (hs : H0 p = none ∨ p ∈ S) (z : acc.length < sizeLine) :
    ∃ acc', H p = some (.lst acc') ∧ acc'.length < sizeLine ∧ Led K H0 S (upd H p (.lst (acc' ++ [y]))) (L.set n (p, .raw (.lst (acc ++ [y])))) I :=
  h_lcE (P := fun H' => Led K H0 S H' (L.set n (p, .raw (.lst (acc ++ [y])))) I) n h e hs z fun H' h' => h'
theorem h_accD {p : Addr} {ds : List PyData} {d : PyData} (n : Nat) (h : Led K H0 S H L I) (e : L[n]? = some (p, .dl ds)) (hd : Im K H y d) (hs : H0 p = none ∨ p ∈ S) (z : ds.length < sizeLine) :
    ∃ acc, H p = some (.lst acc) ∧ acc.length < sizeLine ∧ Led K H0 S (upd H p (.lst (acc ++ [y]))) (L.set n (p, .dl (ds ++ [d]))) I :=
  h_lcD (P := fun H' => Led K H0 S H' (L.set n (p, .dl (ds ++ [d]))) I) n h e hd hs z fun H' h' => h'
theorem h_nT {A B : Prop} (k : B) : if (!true) = true then A else B := iteF k
theorem h_nF {A B : Prop} (k : A) : if (!false) = true then A else B := iteT k
theorem h_eqr {α : Type} {a : α} {P : Prop} (k : P) : a = a ∧ P := ⟨rfl, k⟩
/-- a while by an invariant and a number that falls -/
theorem lpW {c : TT} (Pv : Nat → L2.St → Hp → Prop) (m0 : Nat) (h0 : Pv m0 σ H)
    (hs : ∀ m σ H, Pv m σ H → c σ H fun b H1 => if b = true then ∃ N : L2.St → Hp → Prop, (∀ σ' H', N σ' H' → ∃ m', m' < m ∧ Pv m' σ' H') ∧ tb { D with nx := N, ct := N, bk := D.nx } σ H1 else D.nx σ H1) : tWhile c tb D σ H :=
  ⟨Pv, ⟨m0, h0⟩, hs⟩
/-- a list of ints, from a list of numbers -/
theorem Led.toD (h : Led K H0 S H L I) (n : Nat) {a : Addr} {xs : List V} {ds : List PyData} (e : L[n]? = some (a, .raw (.lst xs))) (hd : Ims K H xs ds) : Led K H0 S H (L.set n (a, .dl ds)) I := by
  have hn : n < L.length := (List.getElem?_eq_some_iff.mp e).1
  refine ⟨?_, fun m b x r => ?_, h.im, h.kp⟩
  · have e2 : (L.set n (a, Ent.dl ds)).map (·.1) = L.map (·.1) := by
      rw [List.map_set]
      refine List.ext_getElem? fun i => ?_
      by_cases hi : n = i
      · subst hi
        rw [List.getElem?_set_self (by rw [List.length_map]; exact hn), List.getElem?_map, e]
        rfl
      · rw [List.getElem?_set_ne hi]
    rw [e2]
    exact h.nd
  · by_cases hm : n = m
    · subst hm
      rw [List.getElem?_set_self hn] at r
      cases r
      exact ⟨xs, h.raw n e, hd⟩
    · rw [List.getElem?_set_ne hm] at r
      exact h.at_ m b x r
/-- loops over data -/
theorem Im.isRef {ds : List PyData} (h : Im K H v (.tuple ds)) : ∃ a, v = .ref a := by
  cases h with
  | tup _ _ => exact ⟨_, rfl⟩
theorem lpTI {a : Addr} {ds : List PyData} (Pv : Nat → L2.St → Hp → Prop) (h0 : Pv 0 σ H) (hl : ∀ i σ H, i ≤ ds.length → Pv i σ H → Im K H (.ref a) (.tuple ds))
    (hs : ∀ i x d σ H, ds[i]? = some d → Im K H x d → Pv i σ H → g x σ H fun σ2 H2 => tb { D with nx := Pv (i + 1), ct := Pv (i + 1), bk := D.nx } σ2 H2) (hd : ∀ σ H, Pv ds.length σ H → D.nx σ H) : Lp (Itt K a) g tb D σ H := by
  refine ⟨fun i m σ H => m = ds.length - i ∧ i ≤ ds.length ∧ Pv i σ H, ⟨ds.length, rfl, Nat.zero_le _, h0⟩, ?_⟩
  rintro i m σ H ⟨rfl, hi, p⟩
  cases hl i σ H hi p with
  | @tup _ xs _ hq hx =>
    have hlen := hx.len
    by_cases hlt : i < ds.length
    · have hlt2 : i < xs.length := by omega
      refine .inr ⟨⟨xs, xs[i], hq, List.getElem?_eq_getElem hlt2⟩, Pv (i + 1), fun σ' H' p' => ⟨ds.length - (i + 1), by omega, rfl, hlt, p'⟩, fun x H' y => ?_⟩
      obtain ⟨e, y⟩ := y
      subst e
      obtain ⟨d, hd1, hd2⟩ := hx.get (y xs hq)
      exact hs i x d σ _ hd1 hd2 p
    · have e : i = ds.length := by omega
      subst e
      exact .inl ⟨⟨xs, hq, by omega⟩, hd σ H p⟩
theorem lpLD {a : Addr} {ds : List PyData} (Pv : Nat → L2.St → Hp → Prop) (h0 : Pv 0 σ H) (hl : ∀ i σ H, i ≤ ds.length → Pv i σ H → EntAt K H a (.dl ds))
    (hs : ∀ i x d σ H, ds[i]? = some d → Im K H x d → Pv i σ H → g x σ H fun σ2 H2 => tb { D with nx := Pv (i + 1), ct := Pv (i + 1), bk := D.nx } σ2 H2) (hd : ∀ σ H, Pv ds.length σ H → D.nx σ H) : Lp (Itl K a) g tb D σ H := by
  refine ⟨fun i m σ H => m = ds.length - i ∧ i ≤ ds.length ∧ Pv i σ H, ⟨ds.length, rfl, Nat.zero_le _, h0⟩, ?_⟩
  rintro i m σ H ⟨rfl, hi, p⟩
  obtain ⟨xs, ha, hx⟩ := hl i σ H hi p
  have hq : SqL K H a xs := SqL.of ha
  have hlen := hx.len
  by_cases hlt : i < ds.length
  · have hlt2 : i < xs.length := by omega
    refine .inr ⟨⟨xs, xs[i], hq, List.getElem?_eq_getElem hlt2⟩, Pv (i + 1), fun σ' H' p' => ⟨ds.length - (i + 1), by omega, rfl, hlt, p'⟩, fun x H' y => ?_⟩
    obtain ⟨e, y⟩ := y
    subst e
    obtain ⟨d, hd1, hd2⟩ := hx.get (y xs hq)
    exact hs i x d σ _ hd1 hd2 p
  · have e : i = ds.length := by omega
    subst e
    exact .inl ⟨⟨xs, hq, by omega⟩, hd σ H p⟩
theorem lcLD {a : Addr} {ds : List PyData} (h : Led K H0 S H L I) (Pv : Addr → Nat → Hp → Prop) (h0 : ∀ p H', H0 p = none ∨ p ∈ S → Led K H0 S H' ((p, .raw (.lst [])) :: L) I → Pv p 0 H')
    (hl : ∀ p i H, i ≤ ds.length → Pv p i H → EntAt K H a (.dl ds))
    (hs : ∀ p i x d H, ds[i]? = some d → Im K H x d → Pv p i H → g x (wipe σ vs) H fun σ2 H2 => wipe σ2 vs = wipe σ vs ∧ tt σ2 H2 fun b H3 =>
      if b = true then te σ2 H3 fun y H4 => ∃ acc, H4 p = some (.lst acc) ∧ acc.length < sizeLine ∧ Pv p (i + 1) (upd H4 p (.lst (acc ++ [y]))) else Pv p (i + 1) H3)
    (hd : ∀ p H, Pv p ds.length H → Q (.ref p) H) : Lc (Itl K a) g tt te vs σ H Q := by
  intro p hp
  refine ⟨fun i m H => m = ds.length - i ∧ i ≤ ds.length ∧ Pv p i H, ⟨ds.length, rfl, Nat.zero_le _, h0 p _ (h.fr hp) (h.alloc hp)⟩, ?_⟩
  rintro i m H ⟨rfl, hi, q⟩
  obtain ⟨xs, ha, hx⟩ := hl p i H hi q
  have hq : SqL K H a xs := SqL.of ha
  have hlen := hx.len
  by_cases hlt : i < ds.length
  · have hlt2 : i < xs.length := by omega
    refine .inr ⟨⟨xs, xs[i], hq, List.getElem?_eq_getElem hlt2⟩, Pv p (i + 1), fun H' p' => ⟨ds.length - (i + 1), by omega, rfl, hlt, p'⟩, fun x H' y => ?_⟩
    obtain ⟨e, y⟩ := y
    subst e
    obtain ⟨d, hd1, hd2⟩ := hx.get (y xs hq)
    exact hs p i x d _ hd1 hd2 q
  · have e : i = ds.length := by omega
    subst e
    exact .inl ⟨⟨xs, hq, by omega⟩, hd p H q⟩
/-- data's form -/
def lay (n : Nat) (d : PyData) : Prop := d.canLay0 = true ∧ d.depth ≤ n
theorem lay_all : ∀ {n : Nat} {ds : List PyData}, (∀ d ∈ ds, lay n d) → PyData.canLayAll0 ds = true ∧ PyData.depthAll ds ≤ n
  | n, [], _ => ⟨by simp [PyData.canLayAll0], by simp [PyData.depthAll]⟩
  | n, d :: ds, h => by
    obtain ⟨h1, h2⟩ := h d List.mem_cons_self
    obtain ⟨h3, h4⟩ := lay_all (n := n) (ds := ds) fun x hx => h x (List.mem_cons_of_mem _ hx)
    refine ⟨by simp [PyData.canLayAll0, h1, h3], ?_⟩
    simp only [PyData.depthAll]
    omega
theorem lay_list {n : Nat} {ds : List PyData} (h : ∀ d ∈ ds, lay n d) : lay (n + 1) (.list ds) := by
  obtain ⟨h1, h2⟩ := lay_all h
  refine ⟨by simp [PyData.canLay0, h1], ?_⟩
  simp only [PyData.depth]
  omega
theorem lay_tup {n : Nat} {ds : List PyData} (h : ∀ d ∈ ds, lay n d) : lay (n + 1) (.tuple ds) := by
  obtain ⟨h1, h2⟩ := lay_all h
  refine ⟨by simp [PyData.canLay0, h1], ?_⟩
  simp only [PyData.depth]
  omega
theorem lay.shaped {n : Nat} {d : PyData} (h : lay n d) (hn : n ≤ 64 := by decide) : SeqAt.shaped d = true := by
  unfold SeqAt.shaped
  rw [h.1, decide_eq_true (Nat.le_trans h.2 hn)]
  rfl
theorem lay_int (i : Int) : lay 0 (.int i) := ⟨by simp [PyData.canLay0], by simp [PyData.depth]⟩
theorem lay_bool (b : Bool) : lay 0 (.bool b) := ⟨by simp [PyData.canLay0], by simp [PyData.depth]⟩
theorem lay_none : lay 0 .none := ⟨by simp [PyData.canLay0], by simp [PyData.depth]⟩
theorem lay_str {x : Str} (h : PyData.strOk x = true) : lay 0 (.str x) := ⟨by simp [PyData.canLay0, h], by simp [PyData.depth]⟩
theorem lay.up {n m : Nat} {d : PyData} (h : lay n d) (hm : n ≤ m) : lay m d := ⟨h.1, Nat.le_trans h.2 hm⟩
/-- in, not in -/
theorem Led.dpL (h : Led K H0 S H L I) (n : Nat) {a : Addr} {ds : List PyData} (e : L[n]? = some (a, .dl ds)) : Dp K H (.ref a) (.list ds) := by
  obtain ⟨xs, ha, hx⟩ := h.at_ n a _ e
  exact .lst (SqL.of ha) hx.dp
theorem h_ninD (n : Nat) (h : Led K H0 S H L I) {a : Addr} {ds : List PyData} {d : PyData} (e : L[n]? = some (a, .dl ds)) (hx : Im K H x d) (h1 : SeqAt.shaped d = true) (h2 : SeqAt.shaped (.list ds) = true) (k : Q (.bl (!ds.any fun z => PyData.eqv z d)) H) : uNin K x (.ref a) H Q :=
  .inr ⟨d, ds, hx.dp, h.dpL n e, h1, h2, k⟩
theorem h_inD (n : Nat) (h : Led K H0 S H L I) {a : Addr} {ds : List PyData} {d : PyData} (e : L[n]? = some (a, .dl ds)) (hx : Im K H x d) (h1 : SeqAt.shaped d = true) (h2 : SeqAt.shaped (.list ds) = true) (k : Q (.bl (ds.any fun z => PyData.eqv z d)) H) : uIn K x (.ref a) H Q :=
  .inr ⟨d, ds, hx.dp, h.dpL n e, h1, h2, k⟩
theorem at_map {α : Type} {f : α → V} {l : List α} {i : Int} (h0 : 0 ≤ i) (h : i < l.length) : ∃ z ∈ l, l[i.toNat]? = some z ∧ atI (l.map f) i = some (f z) := by
  have h2 : i.toNat < l.length := by omega
  refine ⟨l[i.toNat], List.getElem_mem h2, List.getElem?_eq_getElem h2, at_nn h0 ?_⟩
  rw [List.getElem?_map, List.getElem?_eq_getElem h2]
  rfl
/-- slices of tuples -/
def cutD (xs : List PyData) (lo hi : Option Int) : List PyData := (xs.drop (HT.sIx xs.length 0 lo)).take (HT.sIx xs.length xs.length hi - HT.sIx xs.length 0 lo)
theorem h_slT {a : Addr} {ds : List PyData} {lo hi : Option Int} (h : Led K H0 S H L I) (hd : Im K H (.ref a) (.tuple ds)) (k : ∀ p H', Led K H0 S H' L ((.ref p, .tuple (cutD ds lo hi)) :: I) → Q (.ref p) H') : uSl K (.ref a) lo hi H Q := by
  cases id hd with
  | @tup _ xs _ hq hx =>
    have hlen := hx.len
    refine .inr (.inl ⟨a, xs, rfl, hq, fun hw => ?_, fun hw p hp => ?_⟩)
    · refine k a H (h.imNew ?_)
      have e : cutD ds lo hi = ds := by
        unfold cutD
        rw [← hlen, hw.1, hw.2, hlen, List.drop_zero]
        exact List.take_of_length_le (Nat.le_refl _)
      rw [e]
      exact hd
    · refine k p _ (h.allocT hp ?_)
      unfold cutD cutV
      rw [hlen]
      exact Ims.take _ (Ims.drop _ hx)
theorem cutD_pre (ds : List PyData) (k : Nat) : cutD ds none (some (k : Int)) = ds.take k := by
  unfold cutD
  rw [HT.sIx_none, HT.sIx_nat, List.drop_zero, Nat.sub_zero]
  by_cases h : k ≤ ds.length
  · rw [Nat.min_eq_left h]
  · rw [Nat.min_eq_right (by omega), List.take_of_length_le (Nat.le_refl _), List.take_of_length_le (by omega)]
theorem cutD_suf (ds : List PyData) (k : Nat) : cutD ds (some (k : Int)) none = ds.drop k := by
  unfold cutD
  rw [HT.sIx_none, HT.sIx_nat]
  by_cases h : k ≤ ds.length
  · rw [Nat.min_eq_left h]
    exact List.take_of_length_le (by rw [List.length_drop]; exact Nat.le_refl _)
  · rw [Nat.min_eq_right (by omega), List.drop_eq_nil_of_le (Nat.le_refl _), List.drop_eq_nil_of_le (by omega), List.take_nil]
theorem h_slPre {a : Addr} {ds : List PyData} (h : Led K H0 S H L I) (hd : Im K H (.ref a) (.tuple ds)) (h0 : 0 ≤ i) (k : ∀ p H', Led K H0 S H' L ((.ref p, .tuple (ds.take i.toNat)) :: I) → Q (.ref p) H') : uSl K (.ref a) none (some i) H Q :=
  h_slT h hd fun p H' h' => k p H' (by
    have e : cutD ds none (some i) = ds.take i.toNat := by
      have q := cutD_pre ds i.toNat
      rw [Int.toNat_of_nonneg h0] at q
      exact q
    rw [e] at h'
    exact h')
/-- == of data -/
theorem h_eqD {d e : PyData} (hx : Dp K H x d) (hy : Dp K H y e) (h1 : SeqAt.shaped d = true) (h2 : SeqAt.shaped e = true) (k : Q (.bl (PyData.eqv d e)) H) : hEq K x y H Q := .inr ⟨d, e, hx, hy, h1, h2, k⟩
theorem h_neD {d e : PyData} (hx : Dp K H x d) (hy : Dp K H y e) (h1 : SeqAt.shaped d = true) (h2 : SeqAt.shaped e = true) (k : Q (.bl (!PyData.eqv d e)) H) : hNe K x y H Q := .inr ⟨d, e, hx, hy, h1, h2, k⟩
theorem h_eqI {d e : PyData} (hx : Im K H x d) (hy : Im K H y e) (h1 : SeqAt.shaped d = true) (h2 : SeqAt.shaped e = true) (k : Q (.bl (PyData.eqv d e)) H) : hEq K x y H Q := h_eqD hx.dp hy.dp h1 h2 k
theorem h_neI {d e : PyData} (hx : Im K H x d) (hy : Im K H y e) (h1 : SeqAt.shaped d = true) (h2 : SeqAt.shaped e = true) (k : Q (.bl (!PyData.eqv d e)) H) : hNe K x y H Q := h_neD hx.dp hy.dp h1 h2 k
/-- tuple(list) -/
theorem h_tupOf (n : Nat) (h : Led K H0 S H L I) {a : Addr} {ds : List PyData} (e : L[n]? = some (a, .dl ds)) (k : ∀ p H', Led K H0 S H' L ((.ref p, .tuple ds) :: I) → Q (.ref p) H') : hTupOf K [.ref a] H Q := by
  obtain ⟨xs, ha, hx⟩ := h.at_ n a _ e
  exact ⟨a, xs, rfl, .inl ⟨SqL.of ha, fun p hp => k p _ (h.allocT hp hx)⟩⟩
theorem h_listOf (n : Nat) (h : Led K H0 S H L I) {a : Addr} {xs : List V} (e : L[n]? = some (a, .raw (.lst xs))) (k : ∀ p H', (H0 p = none ∨ p ∈ S) → Led K H0 S H' ((p, .raw (.lst xs)) :: L) I → Q (.ref p) H') : hListOf K [.ref a] H Q :=
  ⟨a, xs, rfl, .inl (h.sqL n e), fun p hp => k p _ (h.fr hp) (h.alloc hp)⟩
/-- isinstance of a bool, an int -/
theorem h_isiB {b : Bool} (k : Q (.bl true) H) : rIsi K [.bl b, .ty "bool"] H Q := ⟨_, _, _, _, true, rfl, .ty "bool", .base (.bl b), kit_ty (by decide +kernel), k⟩
theorem Led.tl {q : V × PyData} (h : Led K H0 S H L (q :: I)) : Led K H0 S H L I := ⟨h.nd, h.at_, fun n v d e => h.im (n + 1) v d e, h.kp⟩
theorem Led.tlL {q : Addr × Ent} (h : Led K H0 S H (q :: L) I) : Led K H0 S H L I := ⟨(List.nodup_cons.mp h.nd).2, fun n a d e => h.at_ (n + 1) a d e, h.im, h.kp⟩
theorem Led.noI (h : Led K H0 S H L I) : Led K H0 S H L [] := ⟨h.nd, h.at_, fun n v d e => by simp at e, h.kp⟩
theorem any_take {α : Type} {l : List α} {i : Nat} {x : α} (h : l[i]? = some x) (f : α → Bool) : (l.take (i + 1)).any f = ((l.take i).any f || f x) := by
  rw [List.take_add_one, h, List.any_append]
  simp
theorem any_of {α : Type} {l : List α} {i : Nat} {x : α} (h : l[i]? = some x) {f : α → Bool} (hf : f x = true) : l.any f = true := List.any_eq_true.mpr ⟨x, List.mem_of_getElem? h, hf⟩
theorem map_get {α β : Type} {f : α → β} {l : List α} {i : Nat} {d : β} (h : (l.map f)[i]? = some d) : ∃ z, l[i]? = some z ∧ f z = d := by
  rw [List.getElem?_map] at h
  exact Option.map_eq_some_iff.mp h
theorem map_take {α β : Type} {l : List α} {i : Nat} {x : α} (h : l[i]? = some x) (f : α → β) : (l.take i).map f ++ [f x] = (l.take (i + 1)).map f := by
  rw [List.take_add_one, h, List.map_append]
  rfl
theorem snoc_map {α β : Type} (l : List α) (x : α) (f : α → β) : l.map f ++ [f x] = (l ++ [x]).map f := by rw [List.map_append]; rfl
theorem map_snoc (ds : List Int) (z : Int) : ds.map V.int ++ [V.int z] = (ds ++ [z]).map V.int := by rw [List.map_append]; rfl
/-- unpacking -/
theorem h_gtup {n : Nat} {a : Addr} {ds : List PyData} {gs : TGs} {Q : L2.St → Hp → Prop} (h : Im K H (.ref a) (.tuple ds)) (hn : ds.length = n) (k : ∀ xs, Ims K H xs ds → gs xs σ H Q) : gTup K n gs (.ref a) σ H Q := by
  cases h with
  | tup hs ha => exact ⟨a, _, rfl, hs, ha.len.trans hn, k _ ha⟩
theorem h_gtup2 {a : Addr} {d1 d2 : PyData} {gs : TGs} {Q : L2.St → Hp → Prop} (h : Im K H (.ref a) (.tuple [d1, d2])) (k : ∀ v1 v2, Im K H v1 d1 → Im K H v2 d2 → gs [v1, v2] σ H Q) : gTup K 2 gs (.ref a) σ H Q :=
  h_gtup h rfl fun xs hx => by
    cases hx with
    | cons h1 t =>
      cases t with
      | cons h2 t =>
        cases t
        exact k _ _ h1 h2
end

/-! ### raise and try -/
def mRaise0 (C : Addr) (W : WX) : TS := fun _ σ H => W (.ref C) none σ H
/-- isinstance of a caught error without fields -/
def rIsX (K : PySem.W.Frag) (cls : Value) (d : Option Addr) (a : Addr) : RCall := fun xs H Q => ∃ (c : V) (cv : Value) (D : Addr) (b : Bool), cls = .ref D ∧ d = none ∧ ExcC K D ∧ xs = [.ref a, c] ∧ (∀ u, RelV c u → u = cv) ∧ PySem.W.kitOne K (.ref D) cv = some b ∧ Q (.bl b) H
abbrev TCl := Addr → Value → Option Addr → TS
def mTryAs (K : PySem.W.Frag) (c : Value) (i : Nat) (tb : WX → TS) (ts : TCl) (Wout : WX) : TS := fun D σ H => tb (wAs K c i ts Wout D) D σ H
def mTryOnly (K : PySem.W.Frag) (c : Value) (tb : WX → TS) (ts : TCl) (Wout : WX) : TS := fun D σ H => tb (wOnly K c ts Wout D) D σ H
def wNo : WX := fun _ _ _ _ => False
section
variable {X : Cx}
theorem pmk_own0 {C : Addr} {bmB : List Value} {B newId initId : String} {x : Str} {p pos : Pos} (F : ExcBaseFacts B newId initId bmB) (q : PySem.W.excIn X.K C bmB newId = true) (gC : X.mg x = some (.ref C)) (kC : PySem.W.keepIn X.K (.ref C) = true) (r : Raises X (.ref C)) (hg : Gl X x)
    (hdb : (x == ("__debug__" : Str)) = false := by decide) : PMk X (.Call (.Name x p) [] [] pos) (fun _ H Q => Q (.ref C) none H) := by
  intro pins s σ H Q I h
  refine wpAny_Call_Name_kw (ld_glob I hg gC ?_ hdb)
  refine PySem.W.callWith_K0 I.kIn kC ?_
  show wpAny _ _ (call (.ref C) []) _ _ _
  obtain ⟨bm, N, nm, qn, bs, hdct, sn, sub, ab, col, dd, k0, k1, k2, k3, k5, mN, hC, hN, hni, T⟩ := exc_obj I.kIn q
  refine wpAny_call_exc_subT F T hC hN hni (fun h' e hm => ?_) (Nat.zero_le _)
  exact mk_of I hm r h (I.hok.gone hm.new)
theorem p_raise0 {W : WX} {C : Addr} {bmB : List Value} {B newId initId : String} {x : Str} {p pos pos2 : Pos} (hc : X.calm = true) (tk : Takes X W) (F : ExcBaseFacts B newId initId bmB) (q : PySem.W.excIn X.K C bmB newId = true) (gC : X.mg x = some (.ref C)) (kC : PySem.W.keepIn X.K (.ref C) = true) (b1 : PySem.W.subIn X.K (.ref C) (.type "BaseException") = some true) (b2 : PySem.W.typeIn X.K (.ref C) = some (.type "type")) (hg : Gl X x)
    (hdb : (x == ("__debug__" : Str)) = false := by decide) : PS X (.Raise (some (.Call (.Name x p) [] [] pos)) none pos2) (mRaise0 C W) := ps_raise hc tk (pmk_own0 F q gC kC (raises_own b1 b2) hg hdb)
theorem call_isX {a : Addr} {cls : Value} {d : Option Addr} {oe : Obj} {pn : List (Addr × Obj)} (hz : Zc cls d oe) (hf : ∃ vs, oe.data = .fields vs) : CallR (X.suite a ((a, oe) :: pn)) (.builtin "isinstance") (rIsX X.K cls d a) := by
  intro pins s σ H xs us Q I r h
  obtain ⟨c, cv, D, b, rfl, rfl, C, hx, hcv, e, q⟩ := h
  exact call_isE C hz hf pins s σ H xs us Q I r ⟨c, cv, b, hx, hcv, e, q⟩
theorem p_tryAs {x n : Str} {c : Value} {i : Nat} {body suite : List Stmt} {b₀ : Stmt} {np pos pos' : Pos} {tb : WX → TS} {ts : TCl} {Wout : WX} (hs : X.stack = X.env :: X.outer) (hf : X.env.frame = some X.env.locals) (hN : X.N.Nodup) (hi : X.N[i]? = some n) (hln : X.env.kindOf n = some .local) (hc : Names X x c) (tk : Takes X Wout)
    (hb : ∀ (W : WX) (pn : List (Addr × Obj)) (xe : Value → Shared → Prop), Takes (X.tr pn xe) W → PassesOwn (model X.prog X.w) X.A X.env xe → PSs (X.tr pn xe) body (tb W))
    (hsu : ∀ (a : Addr) (oe : Obj) (cls : Value) (d : Option Addr) (pn : List (Addr × Obj)), Zc cls d oe → (∃ vs, oe.data = .fields vs) → PSs (X.suite a ((a, oe) :: pn)) (b₀ :: suite) (ts a cls d)) :
    PS X (.Try body [.ExceptHandler (some (.Name x np)) (some n) (b₀ :: suite) pos'] [] [] pos) (mTryAs X.K c i tb ts Wout) := ps_try_as hs hf hN hi hln hc tk hb hsu
theorem p_tryOnly {x : Str} {c : Value} {body suite : List Stmt} {b₀ : Stmt} {np pos pos' : Pos} {tb : WX → TS} {ts : TCl} {Wout : WX} (hs : X.stack = X.env :: X.outer) (hf : X.env.frame = some X.env.locals) (hc : Names X x c) (tk : Takes X Wout)
    (hb : ∀ (W : WX) (pn : List (Addr × Obj)) (xe : Value → Shared → Prop), Takes (X.tr pn xe) W → PassesOwn (model X.prog X.w) X.A X.env xe → PSs (X.tr pn xe) body (tb W))
    (hsu : ∀ (a : Addr) (oe : Obj) (cls : Value) (d : Option Addr) (pn : List (Addr × Obj)), Zc cls d oe → (∃ vs, oe.data = .fields vs) → PSs (X.suite a ((a, oe) :: pn)) (b₀ :: suite) (ts a cls d)) :
    PS X (.Try body [.ExceptHandler (some (.Name x np)) none (b₀ :: suite) pos'] [] [] pos) (mTryOnly X.K c tb ts Wout) := ps_try_only hs hf hc tk hb hsu
theorem takesNo {X : Cx} : Takes X wNo := takes0
end
theorem exm_r {K : PySem.W.Frag} {C : Addr} {cls : Value} {b : Bool} (h1 : PySem.W.subIn K (.ref C) (.type "BaseException") = some true) (h2 : PySem.W.isClsIn K C = true) (h3 : PySem.W.typeIn K (.ref C) = some (.type "type")) (h4 : PySem.W.subIn K cls (.ref C) = some b) : PySem.W.exmOne K cls (.ref C) = some b := by
  have e1 : (PySem.W.subIn K (.ref C) (.type "BaseException") == some true) = true := by rw [h1] <;> rfl
  have h2' : (PySem.W.clsIn K C).isSome = true := h2
  have e2 : ((PySem.W.clsIn K C).isSome && PySem.W.typeIn K (.ref C) == some (.type "type")) = true := by rw [h2', h3] <;> rfl
  show (if (PySem.W.subIn K (.ref C) (.type "BaseException") == some true) = true then (if ((PySem.W.clsIn K C).isSome && PySem.W.typeIn K (.ref C) == some (.type "type")) = true then PySem.W.subIn K cls (.ref C) else none) else none) = some b
  rw [if_pos e1, if_pos e2]
  exact h4
theorem kit_r {K : PySem.W.Frag} {C D : Addr} {b : Bool} (h2 : PySem.W.isClsIn K C = true) (h3 : PySem.W.typeIn K (.ref C) = some (.type "type")) (h4 : PySem.W.subIn K (.ref D) (.ref C) = some b) (h5 : D = C → b = true) : PySem.W.kitOne K (.ref D) (.ref C) = some b := by
  have h2' : (PySem.W.clsIn K C).isSome = true := h2
  have e2 : ((PySem.W.clsIn K C).isSome && PySem.W.typeIn K (.ref C) == some (.type "type")) = true := by rw [h2', h3] <;> rfl
  unfold PySem.W.kitOne
  by_cases h : (Value.ref D == Value.ref C) = true
  · rw [if_pos h, h5 (Value.ref.inj (beq_iff_eq.mp h))]
  · rw [if_neg h]
    show (if ((PySem.W.clsIn K C).isSome && PySem.W.typeIn K (.ref C) == some (.type "type")) = true then PySem.W.subIn K (.ref D) (.ref C) else none) = some b
    rw [if_pos e2]
    exact h4
theorem kit_t {K : PySem.W.Frag} {D : Addr} {T : String} {b : Bool} (h2 : PySem.W.kitMeta T = true) (h4 : PySem.W.subIn K (.ref D) (.type T) = some b) : PySem.W.kitOne K (.ref D) (.type T) = some b := by
  unfold PySem.W.kitOne
  rw [if_neg (by intro h; exact nomatch beq_iff_eq.mp h)]
  show (if PySem.W.kitMeta T = true then PySem.W.subIn K (.ref D) (.type T) else none) = some b
  rw [if_pos h2]
  exact h4
/-- a copy the other way round -/
def revK (K : PySem.W.Frag) (x : V) (H1 : Hp) (Q : VK) : Prop := ∃ a xs, x = .ref a ∧ SqL K H1 a xs ∧ ∀ p, H1 p = none → Q (.ref p) (upd H1 p (.lst xs.reverse))
section
variable {K : PySem.W.Frag} {σ : L2.St} {H H0 : Hp} {S : List Addr} {L : List (Addr × Ent)} {I : List (V × PyData)} {Q : VK} {D : Ends} {v x y : V} {i j : Int} {A : TA} {te : TE} {W Wout : WX} {c cls : Value} {d : Option Addr} {tb : WX → TS} {ts : TCl} {m : Nat} {C : Addr}
theorem a_callS {sp : Sp} {E : L2.St → XK} : tCallS sp E A σ H Q = A σ H fun vs H1 => sp vs H1 Q (E σ) := rfl
theorem a_raise0 : mRaise0 C W D σ H = W (.ref C) none σ H := rfl
theorem a_tryAs : mTryAs K c m tb ts Wout D σ H = tb (wAs K c m ts Wout D) D σ H := rfl
theorem a_tryOnly : mTryOnly K c tb ts Wout D σ H = tb (wOnly K c ts Wout D) D σ H := rfl
theorem a_rev : tRevL K te σ H Q = te σ H fun x H1 => revK K x H1 Q := rfl
theorem h_wAsT (hm : PySem.W.exmOne K cls c = some true) (k : ∀ a, H a = none → ts a cls d { nx := fun σ' H' => D.nx (σ'.set m none) H', rt := D.rt, bk := fun σ' H' => D.bk (σ'.set m none) H', ct := fun σ' H' => D.ct (σ'.set m none) H' } (σ.set m (some (.ref a))) H) : wAs K c m ts Wout D cls d σ H :=
  ⟨true, hm, fun _ => k, fun z => nomatch z⟩
theorem h_wOnlyT (hm : PySem.W.exmOne K cls c = some true) (k : ∀ a, H a = none → ts a cls d D σ H) : wOnly K c ts Wout D cls d σ H := ⟨true, hm, fun _ => k, fun z => nomatch z⟩
theorem h_wAsF (hm : PySem.W.exmOne K cls c = some false) (k : Wout cls d σ H) : wAs K c m ts Wout D cls d σ H := ⟨false, hm, fun z => absurd z Bool.false_ne_true, fun _ => k⟩
theorem h_wOnlyF (hm : PySem.W.exmOne K cls c = some false) (k : Wout cls d σ H) : wOnly K c ts Wout D cls d σ H := ⟨false, hm, fun z => absurd z Bool.false_ne_true, fun _ => k⟩
theorem h_isXr {a C D : Addr} {b : Bool} (hD : ExcC K D) (hk : PySem.W.kitOne K (.ref D) (.ref C) = some b) (k : Q (.bl b) H) : rIsX K (.ref D) none a [.ref a, .ref C] H Q :=
  ⟨_, _, D, b, rfl, rfl, hD, rfl, fun _ r => r, hk, k⟩
theorem h_isXt {a D : Addr} {T : String} {b : Bool} (hD : ExcC K D) (hk : PySem.W.kitOne K (.ref D) (.type T) = some b) (k : Q (.bl b) H) : rIsX K (.ref D) none a [.ref a, .ty T] H Q :=
  ⟨_, _, D, b, rfl, rfl, hD, rfl, fun _ r => r, hk, k⟩
/-! ### lists of whole numbers -/
def cutI {α : Type} (xs : List α) (lo hi : Option Int) : List α := (xs.drop (HT.sIx xs.length 0 lo)).take (HT.sIx xs.length xs.length hi - HT.sIx xs.length 0 lo)
theorem cutI_map {α β : Type} (f : α → β) (xs : List α) (lo hi : Option Int) : cutI (xs.map f) lo hi = (cutI xs lo hi).map f := by
  unfold cutI
  rw [List.length_map, List.map_take, List.map_drop]
theorem sIx_nn {n d : Nat} {i : Int} (h : 0 ≤ i) : HT.sIx n d (some i) = min i.toNat n := by
  show (if i < 0 then (i + (n : Int)).toNat else min i.toNat n) = _
  rw [if_neg (by omega)]
theorem cutI_two {α : Type} (xs : List α) {i j : Int} (hi : 0 ≤ i) (hj : 0 ≤ j) : cutI xs (some i) (some j) = (xs.take j.toNat).drop i.toNat := by
  unfold cutI
  rw [sIx_nn hi, sIx_nn hj, List.drop_take]
  by_cases h : i.toNat ≤ xs.length
  · rw [Nat.min_eq_left h]
    by_cases h2 : j.toNat ≤ xs.length
    · rw [Nat.min_eq_left h2]
    · rw [Nat.min_eq_right (by omega), List.take_of_length_le (by rw [List.length_drop]; exact Nat.le_refl _), List.take_of_length_le (by rw [List.length_drop]; omega)]
  · rw [Nat.min_eq_right (show xs.length ≤ i.toNat by omega), List.drop_eq_nil_of_le (Nat.le_refl xs.length), List.drop_eq_nil_of_le (show xs.length ≤ i.toNat by omega), List.take_nil, List.take_nil]
theorem cutI_pre {α : Type} (xs : List α) {j : Int} (hj : 0 ≤ j) : cutI xs none (some j) = xs.take j.toNat := by
  unfold cutI
  rw [sIx_nn hj, HT.sIx_none, List.drop_zero, Nat.sub_zero]
  by_cases h2 : j.toNat ≤ xs.length
  · rw [Nat.min_eq_left h2]
  · rw [Nat.min_eq_right (by omega), List.take_of_length_le (Nat.le_refl _), List.take_of_length_le (by omega)]
theorem cutI_suf {α : Type} (xs : List α) {i : Int} (hi : 0 ≤ i) : cutI xs (some i) none = xs.drop i.toNat := by
  unfold cutI
  rw [sIx_nn hi, HT.sIx_none]
  by_cases h : i.toNat ≤ xs.length
  · rw [Nat.min_eq_left h]
    exact List.take_of_length_le (by rw [List.length_drop]; exact Nat.le_refl _)
  · rw [Nat.min_eq_right (by omega), List.drop_eq_nil_of_le (Nat.le_refl _), List.drop_eq_nil_of_le (by omega), List.take_nil]
theorem h_slG (n : Nat) (h : Led K H0 S H L I) {a : Addr} {xs : List V} {lo hi : Option Int} (e : L[n]? = some (a, .raw (.lst xs))) (k : ∀ p H', (H0 p = none ∨ p ∈ S) → Led K H0 S H' ((p, .raw (.lst (cutI xs lo hi))) :: L) I → Q (.ref p) H') : uSl K (.ref a) lo hi H Q :=
  .inl ⟨a, xs, rfl, h.sqL n e, fun p hp => k p _ (h.fr hp) (h.alloc hp)⟩
theorem h_sl2 (n : Nat) (h : Led K H0 S H L I) {a : Addr} {ns : List Int} (e : L[n]? = some (a, .raw (.lst (ns.map V.int)))) (hi : 0 ≤ i) (hj : 0 ≤ j) (k : ∀ p H', (H0 p = none ∨ p ∈ S) → Led K H0 S H' ((p, .raw (.lst (((ns.take j.toNat).drop i.toNat).map V.int))) :: L) I → Q (.ref p) H') : uSl K (.ref a) (some i) (some j) H Q :=
  h_slG n h e (by rw [cutI_map, cutI_two ns hi hj]; exact k)
theorem h_slp (n : Nat) (h : Led K H0 S H L I) {a : Addr} {ns : List Int} (e : L[n]? = some (a, .raw (.lst (ns.map V.int)))) (hj : 0 ≤ j) (k : ∀ p H', (H0 p = none ∨ p ∈ S) → Led K H0 S H' ((p, .raw (.lst ((ns.take j.toNat).map V.int))) :: L) I → Q (.ref p) H') : uSl K (.ref a) none (some j) H Q :=
  h_slG n h e (by rw [cutI_map, cutI_pre ns hj]; exact k)
theorem h_sls (n : Nat) (h : Led K H0 S H L I) {a : Addr} {ns : List Int} (e : L[n]? = some (a, .raw (.lst (ns.map V.int)))) (hi : 0 ≤ i) (k : ∀ p H', (H0 p = none ∨ p ∈ S) → Led K H0 S H' ((p, .raw (.lst ((ns.drop i.toNat).map V.int))) :: L) I → Q (.ref p) H') : uSl K (.ref a) (some i) none H Q :=
  h_slG n h e (by rw [cutI_map, cutI_suf ns hi]; exact k)
theorem h_rev (n : Nat) (h : Led K H0 S H L I) {a : Addr} {ns : List Int} (e : L[n]? = some (a, .raw (.lst (ns.map V.int)))) (k : ∀ p H', (H0 p = none ∨ p ∈ S) → Led K H0 S H' ((p, .raw (.lst (ns.reverse.map V.int))) :: L) I → Q (.ref p) H') : revK K (.ref a) H Q :=
  ⟨a, _, rfl, h.sqL n e, fun p hp => by rw [← List.map_reverse]; exact k p _ (h.fr hp) (h.alloc hp)⟩
theorem h_reverse (n : Nat) (h : Led K H0 S H L I) {a : Addr} {ns : List Int} (e : L[n]? = some (a, .raw (.lst (ns.map V.int)))) (hs : H0 a = none ∨ a ∈ S) (k : ∀ H', Led K H0 S H' (L.set n (a, .raw (.lst (ns.reverse.map V.int)))) I → Q .non H') : rReverse (.ref a) [] H Q :=
  ⟨a, _, rfl, rfl, h.raw n e, by
    rw [← List.map_reverse]
    exact k _ (h.wr n e (fun b o q hb => by rw [upd_ne (by simpa using hb)]; exact q) (h.raw n e) rfl upd_same hs)⟩
/-- a + b of two lists, the one at n, the other at m -/
theorem h_catG (n m : Nat) (h : Led K H0 S H L I) {a b : Addr} {xs ys : List V} (e : L[n]? = some (a, .raw (.lst xs))) (e2 : L[m]? = some (b, .raw (.lst ys))) (z : xs.length + ys.length ≤ sizeLine) (k : ∀ p H', (H0 p = none ∨ p ∈ S) → Led K H0 S H' ((p, .raw (.lst (xs ++ ys))) :: L) I → Q (.ref p) H') : hAdd K (.ref a) (.ref b) H Q :=
  .inl ⟨a, b, xs, ys, rfl, rfl, h.raw n e, h.raw m e2, z, fun p hp => k p _ (h.fr hp) (h.alloc hp)⟩
theorem h_cat (n m : Nat) (h : Led K H0 S H L I) {a b : Addr} {xs ys : List Int} (e : L[n]? = some (a, .raw (.lst (xs.map V.int)))) (e2 : L[m]? = some (b, .raw (.lst (ys.map V.int)))) (z : xs.length + ys.length ≤ sizeLine) (k : ∀ p H', (H0 p = none ∨ p ∈ S) → Led K H0 S H' ((p, .raw (.lst ((xs ++ ys).map V.int))) :: L) I → Q (.ref p) H') : hAdd K (.ref a) (.ref b) H Q :=
  h_catG n m h e e2 (by rw [List.length_map, List.length_map]; exact z) (by rw [← List.map_append]; exact k)
/-- [z] * j -/
theorem h_rep (n : Nat) (h : Led K H0 S H L I) {a : Addr} {z : Int} (e : L[n]? = some (a, .raw (.lst [.int z]))) (h0 : 0 ≤ j) (h1 : j ≤ 16000000) (k : ∀ p H', (H0 p = none ∨ p ∈ S) → Led K H0 S H' ((p, .raw (.lst ((List.replicate j.toNat z).map V.int))) :: L) I → Q (.ref p) H') : rRep (.ref a) (.int j) H Q :=
  ⟨a, j, _, rfl, rfl, h.raw n e, by omega, by omega, by rw [sizeLine_eq]; simp only [List.length_cons, List.length_nil]; omega, fun p hp => by
    have q : (List.replicate j.toNat [V.int z]).flatten = (List.replicate j.toNat z).map V.int := by
      induction j.toNat with
      | zero => rfl
      | succ n ih => rw [List.replicate_succ, List.flatten_cons, ih, List.replicate_succ]; rfl
    rw [q]
    exact k p _ (h.fr hp) (h.alloc hp)⟩
theorem h_ixI (n : Nat) (h : Led K H0 S H L I) {a : Addr} {ns : List Int} (e : L[n]? = some (a, .raw (.lst (ns.map V.int)))) (h0 : 0 ≤ i) (h1 : i < ns.length) (k : Q (.int (ns.getD i.toNat 0)) H) : rIx K (.ref a) (.int i) H Q := h_ixL n h e (at_ints h0 h1) k
theorem h_setI {Q : Hp → Prop} (n : Nat) (h : Led K H0 S H L I) {a : Addr} {ns : List Int} (e : L[n]? = some (a, .raw (.lst (ns.map V.int)))) (hs : H0 a = none ∨ a ∈ S) (h0 : 0 ≤ i) (h1 : i < ns.length) (k : ∀ H', Led K H0 S H' (L.set n (a, .raw (.lst ((ns.set i.toNat j).map V.int)))) I → Q H') : rSetL (.ref a) (.int i) (.int j) H Q :=
  h_setL n h e hs (ixN_nn h0 (by rw [List.length_map]; exact h1)) (by rw [← List.map_set]; exact k)
theorem h_appI (n : Nat) (h : Led K H0 S H L I) {a : Addr} {ns : List Int} (e : L[n]? = some (a, .raw (.lst (ns.map V.int)))) (hs : H0 a = none ∨ a ∈ S) (z : ns.length < sizeLine) (k : ∀ H', Led K H0 S H' (L.set n (a, .raw (.lst ((ns ++ [i]).map V.int)))) I → Q .non H') : rAppend (.ref a) [.int i] H Q :=
  h_append n h e hs (by rw [List.length_map]; exact z) (by rw [map_snoc]; exact k)
theorem h_copyI (n : Nat) (h : Led K H0 S H L I) {a : Addr} {ns : List Int} (e : L[n]? = some (a, .raw (.lst (ns.map V.int)))) (k : ∀ p H', (H0 p = none ∨ p ∈ S) → Led K H0 S H' ((p, .raw (.lst (ns.map V.int))) :: L) I → Q (.ref p) H') : hListOf K [.ref a] H Q := h_listOf n h e k
theorem eqvAll_ints : ∀ xs ys : List Int, PyData.eqvAll (xs.map PyData.int) (ys.map PyData.int) = decide (xs = ys)
  | [], [] => by simp [PyData.eqvAll]
  | [], _ :: _ => by simp [PyData.eqvAll]
  | _ :: _, [] => by simp [PyData.eqvAll]
  | x :: xs, y :: ys => by
    simp only [List.map_cons, PyData.eqvAll, PyData.eqv, eqvAll_ints xs ys]
    by_cases h1 : x = y
    · subst h1
      simp
    · simp [h1]
theorem eqv_lints (xs ys : List Int) : PyData.eqv (.list (xs.map PyData.int)) (.list (ys.map PyData.int)) = decide (xs = ys) := by
  simp only [PyData.eqv, eqvAll_ints]
theorem Led.dpI (h : Led K H0 S H L I) (n : Nat) {a : Addr} {ns : List Int} (e : L[n]? = some (a, .raw (.lst (ns.map V.int)))) : Dp K H (.ref a) (.list (ns.map PyData.int)) := .lst (h.sqL n e) (Ims.of_ints ns).dp
theorem lay_ints (ns : List Int) : lay 1 (.list (ns.map PyData.int)) := lay_list fun d hd => by
  obtain ⟨z, _, rfl⟩ := List.mem_map.mp hd
  exact lay_int z
theorem h_neLI (n m : Nat) (h : Led K H0 S H L I) {a b : Addr} {xs ys : List Int} (e : L[n]? = some (a, .raw (.lst (xs.map V.int)))) (e2 : L[m]? = some (b, .raw (.lst (ys.map V.int)))) (k : Q (.bl (!decide (xs = ys))) H) : hNe K (.ref a) (.ref b) H Q :=
  h_neD (h.dpI n e) (h.dpI m e2) (lay_ints xs).shaped (lay_ints ys).shaped (by rw [eqv_lints]; exact k)
theorem h_eqLI (n m : Nat) (h : Led K H0 S H L I) {a b : Addr} {xs ys : List Int} (e : L[n]? = some (a, .raw (.lst (xs.map V.int)))) (e2 : L[m]? = some (b, .raw (.lst (ys.map V.int)))) (k : Q (.bl (decide (xs = ys))) H) : hEq K (.ref a) (.ref b) H Q :=
  h_eqD (h.dpI n e) (h.dpI m e2) (lay_ints xs).shaped (lay_ints ys).shaped (by rw [eqv_lints]; exact k)
/-- h_neLI with the same list: it is equal -/
theorem h_neSame (n m : Nat) (h : Led K H0 S H L I) {a b : Addr} {xs ys : List Int} (e : L[n]? = some (a, .raw (.lst (xs.map V.int)))) (e2 : L[m]? = some (b, .raw (.lst (ys.map V.int)))) (q : xs = ys) (k : Q (.bl false) H) : hNe K (.ref a) (.ref b) H Q :=
  h_neLI n m h e e2 (by rw [decide_eq_true q]; exact k)
/-! ### range with a step -/
def rg3 (xs : List V) (P : Int → Int → Nat → Prop) : Prop := ∃ (i j c : Int) (n : Nat), xs = [.int i, .int j, .int c] ∧ RgC i j c n ∧ P i c n
def jR3 (ta : TA) : TI := fun σ H R => ta σ H fun vs H1 => rg3 vs fun i c n => R (Itc i c n) H1
theorem i_rng3 {X : Cx} {tg : Expr} {ta : TA} {iter : Expr} (h : PI X tg iter (iRng3 ta)) : PI X tg iter (jR3 ta) := h
theorem a_jR3 {R : It → Hp → Prop} : jR3 A σ H R = A σ H fun vs H1 => rg3 vs fun i c n => R (Itc i c n) H1 := rfl
theorem h_rg3 {c : Int} {n : Nat} {P : Int → Int → Nat → Prop} (h : RgC i j c n) (k : P i c n) : rg3 [.int i, .int j, .int c] P := ⟨i, j, c, n, rfl, h, k⟩
theorem rgC_up {c : Int} {m : Nat} (hc : 0 < c) (hc2 : c < 1000000) (hm : m ≤ 1000000) (hj : j = c * m) : RgC 0 j c m := by
  subst hj
  have h0 : 0 ≤ c * (m : Int) := Int.mul_nonneg (by omega) (by omega)
  have h1 : c * (m : Int) ≤ 1000000 * 1000000 := Int.mul_le_mul (by omega) (by omega) (by omega) (by omega)
  have hs : Builtin.Range.rangeSize 0 (c * m) c = m := by
    unfold Builtin.Range.rangeSize
    rw [if_pos (by omega)]
    by_cases hm0 : m = 0
    · subst hm0
      simp
    · have hp : 0 < c * (m : Int) := Int.mul_pos hc (by omega)
      rw [if_pos hp]
      have e : (c * (m : Int) - 0 - 1) = (c - 1) + c * (m - 1) := by rw [Int.mul_sub]; omega
      rw [e, Int.add_mul_ediv_left _ _ (by omega), Int.ediv_eq_zero_of_lt (by omega) (by omega)]
      omega
  refine ⟨by omega, by omega, ?_, hs⟩
  unfold Builtin.Range.small
  rw [hs]
  simp only [Builtin.Range.rangeFitsLong, Bool.and_eq_true, Bool.or_eq_true, decide_eq_true_eq, beq_iff_eq]
  refine ⟨by omega, .inr ?_⟩
  rw [if_pos (show c > 0 by omega), decide_eq_true (by omega), decide_eq_true (by omega)]
  rfl
theorem lpC {lo c : Int} {n : Nat} {g : TG} {tb : TS} (Pv : Nat → L2.St → Hp → Prop) (h0 : Pv 0 σ H)
    (hs : ∀ i σ H, i < n → Pv i σ H → g (.int (lo + (i : Nat) * c)) σ H fun σ2 H2 => tb { D with nx := Pv (i + 1), ct := Pv (i + 1), bk := D.nx } σ2 H2) (hd : ∀ σ H, Pv n σ H → D.nx σ H) : Lp (Itc lo c n) g tb D σ H := for_rangeC Pv h0 hs hd
/-! ### a tuple of scalars, unpacked -/
def vOfs : List PyData → Option (List V)
  | [] => some []
  | d :: r => match Rs.vOf d, vOfs r with
    | some v, some vs => some (v :: vs)
    | _, _ => none
theorem Ims.vOfs : ∀ {vs us : List V} {ds : List PyData}, Ims K H vs ds → Rs.vOfs ds = some us → vs = us
  | _, us, _, .nil, e => by
    cases e
    rfl
  | v :: vs, us, d :: ds, .cons h t, e => by
    unfold Rs.vOfs at e
    split at e
    · rename_i v' vs' e1 e2
      cases e
      rw [h.vOf _ e1, Ims.vOfs t e2]
    · cases e
theorem h_gtupV {n : Nat} {a : Addr} {ds : List PyData} {us : List V} {gs : TGs} {Q : L2.St → Hp → Prop} (h : Im K H (.ref a) (.tuple ds)) (hn : ds.length = n) (hv : Rs.vOfs ds = some us) (k : gs us σ H Q) : gTup K n gs (.ref a) σ H Q :=
  h_gtup h hn fun xs hx => by rw [hx.vOfs hv]; exact k
/-! ### fewer entries -/
def pickL (f : List Nat) (L : List (Addr × Ent)) : List (Addr × Ent) := f.map fun n => L[n]?.getD (0, .dl [])
theorem Led.pick (h : Led K H0 S H L I) (f : List Nat) (hf : f.Nodup := by decide) (hb' : (f.all fun n => decide (n < L.length)) = true := by rfl) : Led K H0 S H (pickL f L) I := by
  have hb : ∀ n ∈ f, n < L.length := fun n hn => of_decide_eq_true (List.all_eq_true.mp hb' n hn)
  refine h.take _ I f (List.range I.length) hf (by unfold pickL; rw [List.length_map]) (fun i n e => ?_) (by rw [List.length_range]) (fun i n e => ?_)
  · have hn := hb n (List.mem_of_getElem? e)
    unfold pickL
    rw [List.getElem?_map, e]
    show some (L[n]?.getD (0, .dl [])) = L[n]?
    rw [List.getElem?_eq_getElem hn]
    rfl
  · obtain ⟨h1, h2⟩ := List.getElem?_eq_some_iff.mp e
    rw [List.getElem_range] at h2
    rw [h2]
theorem h_brNT {t u : TS} (h1 : u D σ H) : Br (!true) t u D σ H := iteF h1
theorem h_brNF {t u : TS} (h1 : t D σ H) : Br (!false) t u D σ H := iteT h1
/-! ### repr of data -/
def shw (n W : Nat) (d : PyData) : Prop := d.showable = true ∧ d.hasDict = false ∧ d.depth ≤ n ∧ d.leavesShort 13 = true ∧ d.weight ≤ W
theorem shw_int {z : Int} (h : z.natAbs < 10 ^ 12) : shw 0 41 (.int z) := by
  have hl : z = 0 ∨ z.natAbs.log2 < 40 := by
    by_cases h0 : z = 0
    · exact .inl h0
    · exact .inr ((Nat.log2_lt (by omega)).mpr (Nat.lt_trans h (by decide)))
  refine ⟨?_, by simp [PyData.hasDict], by simp [PyData.depth], ?_, ?_⟩
  · unfold PyData.showable
    refine decide_eq_true ?_
    rcases hl with rfl | hl
    · decide
    · omega
  · simp only [PyData.leavesShort, decide_eq_true_eq]
    exact PyData.shown_int_le h
  · unfold PyData.weight
    rcases hl with rfl | hl
    · simp
    · split <;> omega
theorem shw_bool (b : Bool) : shw 0 41 (.bool b) := ⟨by simp [PyData.showable], by simp [PyData.hasDict], by simp [PyData.depth], by simp [PyData.leavesShort], by simp [PyData.weight]⟩
theorem shw_none : shw 0 41 .none := ⟨by simp [PyData.showable], by simp [PyData.hasDict], by simp [PyData.depth], by simp [PyData.leavesShort], by simp [PyData.weight]⟩
theorem shw.up {n n' W W' : Nat} {d : PyData} (h : shw n W d) (h1 : n ≤ n') (h2 : W ≤ W') : shw n' W' d := ⟨h.1, h.2.1, Nat.le_trans h.2.2.1 h1, h.2.2.2.1, Nat.le_trans h.2.2.2.2 h2⟩
theorem shw_all {n W : Nat} : ∀ {ds : List PyData}, (∀ d ∈ ds, shw n W d) → PyData.showableAll ds = true ∧ PyData.hasDictAll ds = false ∧ PyData.depthAll ds ≤ n ∧ PyData.leavesShortAll 13 ds = true ∧ PyData.weightAll ds ≤ ds.length * (W + 1)
  | [], _ => ⟨by simp [PyData.showableAll], by simp [PyData.hasDictAll], by simp [PyData.depthAll], by simp [PyData.leavesShortAll], by simp [PyData.weightAll]⟩
  | d :: ds, h => by
    obtain ⟨h1, h2, h3, h4, h5⟩ := h d List.mem_cons_self
    obtain ⟨g1, g2, g3, g4, g5⟩ := shw_all (ds := ds) fun x hx => h x (List.mem_cons_of_mem _ hx)
    refine ⟨by simp [PyData.showableAll, h1, g1], by simp [PyData.hasDictAll, h2, g2], ?_, by simp [PyData.leavesShortAll, h4, g4], ?_⟩
    · simp only [PyData.depthAll]
      omega
    · simp only [PyData.weightAll, List.length_cons]
      rw [Nat.succ_mul]
      omega
theorem shw_list {n W : Nat} {ds : List PyData} (h : ∀ d ∈ ds, shw n W d) : shw (n + 1) (ds.length * (W + 1)) (.list ds) := by
  obtain ⟨g1, g2, g3, g4, g5⟩ := shw_all h
  exact ⟨by simp [PyData.showable, g1], by simp [PyData.hasDict, g2], by simp only [PyData.depth]; omega, by simp [PyData.leavesShort, g4], by simp only [PyData.weight]; exact g5⟩
theorem shw_tup {n W : Nat} {ds : List PyData} (h : ∀ d ∈ ds, shw n W d) : shw (n + 1) (ds.length * (W + 1)) (.tuple ds) := by
  obtain ⟨g1, g2, g3, g4, g5⟩ := shw_all h
  exact ⟨by simp [PyData.showable, g1], by simp [PyData.hasDict, g2], by simp only [PyData.depth]; omega, by simp [PyData.leavesShort, g4], by simp only [PyData.weight]; exact g5⟩
theorem h_repr {x : V} {d : PyData} {n W : Nat} (hd : Dp K H x d) (h : shw n W d) (k : Q (.str d.shown) H) (hn : n ≤ 60 := by decide) (hW : W ≤ 2 ^ 20 := by decide) : hRepr K [x] H Q :=
  ⟨x, d, rfl, hd, h.1, h.2.1, Nat.le_trans h.2.2.1 hn, PyData.shown_fits (by decide) (by decide) h.2.2.2.1 (Nat.le_trans h.2.2.2.2 hW), k⟩
end

/-! ### the promises of the laws' own helpers -/
/-- where the classes stand -/
structure Ad where
  c_RecordError : Addr
  c_BadSchema : Addr
  c_BadField : Addr
  c_OutOfRange : Addr
  c_Full : Addr
  c_Leased : Addr
  c_BadImage : Addr
  c_BadJournal : Addr
  c_BadArgument : Addr
  c_Work : Addr
  c_Device : Addr
  c_Words : Addr
def A0 : Ad := ⟨0, 0, 0, 0, 0, 0, 0, 0, 0, 0, 0, 0⟩
def sp__law_cell (K : PySem.W.Frag) (A : Ad) : Sp := fun vs H Q _ => ∃ (a : Addr) (ns : List Int) (i : Int), vs = [.ref a, .int i] ∧ SqL K H a (ns.map V.int) ∧ 0 ≤ i ∧ ∀ z H', Same H H' → Q (.int z) H'
def sp__law_digits (K : PySem.W.Frag) (A : Ad) : Sp := fun vs H Q _ => ∃ (a : Addr) (ns : List Int) (f l : Int), vs = [.ref a, .int f, .int l] ∧ SqL K H a (ns.map V.int) ∧ 0 ≤ f ∧ f ≤ 1000 ∧ 0 ≤ l ∧ l ≤ 1000 ∧
  ∀ (p : Addr) (H' : Hp) (ds : List Int), Same H H' → H p = none → H' p = some (.lst (ds.map V.int)) → Q (.ref p) H'
def sp__law_draw (K : PySem.W.Frag) (A : Ad) : Sp := fun vs H Q _ => ∃ (b g : Addr) (ds : List Int) (i m : Int), vs = [.ref b, .int m] ∧ H b = some (.lst [.ref g, .int i]) ∧ H g = some (.lst (ds.map V.int)) ∧ b ≠ g ∧ 0 ≤ i ∧ i < 2 ^ 60 ∧ 0 < m ∧
  ∀ z H', 0 ≤ z → z < m → KBs H H' [b] → H' b = some (.lst [.ref g, .int (i + 1)]) → Q (.int z) H'
section
variable {K : PySem.W.Frag} {A : Ad} {H0 H : Hp} {S : List Addr} {L : List (Addr × Ent)} {I : List (V × PyData)} {Q : VK} {E : XK}
/-- a draw: the box stands at the n-th place of the ledger, its digits right behind -/
theorem h_draw (n : Nat) (h : Led K H0 S H L I) {b g : Addr} {ds : List Int} {i m : Int} (e : L[n]? = some (b, .raw (.lst [.ref g, .int i]))) (e2 : L[n + 1]? = some (g, .raw (.lst (ds.map V.int)))) (h0 : 0 ≤ i) (h1 : i < 2 ^ 60) (h2 : 0 < m)
    (hs : H0 b = none ∨ b ∈ S) (k : ∀ z H', 0 ≤ z → z < m → Led K H0 S H' (L.set n (b, .raw (.lst [.ref g, .int (i + 1)]))) I → Q (.int z) H') : sp__law_draw K A [.ref b, .int m] H Q E :=
  ⟨b, g, ds, i, m, rfl, h.raw n e, h.raw (n + 1) e2, h.ne n (n + 1) e e2 (by omega), h0, h1, h2, fun z H' z0 z1 kb he => k z H' z0 z1 (h.wr n e kb (h.raw n e) rfl he hs)⟩
end

local macro_rules | `(tactic| walk_at "im") => `(tactic| (first | apply Im.int | apply Im.str | apply Im.bl | apply Im.non | assumption | (apply h_imm 0; (case h => assumption); (case e => with_unfolding_all rfl)) | (apply h_imm 1; (case h => assumption); (case e => with_unfolding_all rfl)) | (apply h_imm 2; (case h => assumption); (case e => with_unfolding_all rfl)) | (apply h_imm 3; (case h => assumption); (case e => with_unfolding_all rfl)) | (apply h_imm 4; (case h => assumption); (case e => with_unfolding_all rfl)) | (apply h_imm 5; (case h => assumption); (case e => with_unfolding_all rfl))))
local macro_rules | `(tactic| walk_at "ims") => `(tactic| repeat (first | apply Ims.nil | (apply Ims.cons; (focus (first | apply Im.int | apply Im.str | apply Im.bl | apply Im.non | assumption | (apply h_imm 0; (case h => assumption); (case e => with_unfolding_all rfl)) | (apply h_imm 1; (case h => assumption); (case e => with_unfolding_all rfl)) | (apply h_imm 2; (case h => assumption); (case e => with_unfolding_all rfl)) | (apply h_imm 3; (case h => assumption); (case e => with_unfolding_all rfl)) | (apply h_imm 4; (case h => assumption); (case e => with_unfolding_all rfl)) | (apply h_imm 5; (case h => assumption); (case e => with_unfolding_all rfl)))))))
local macro_rules | `(tactic| walk_at "sz") => `(tactic| (rw [sizeLine_eq]; ((try simp only [List.length_append, List.length_cons, List.length_nil, List.length_map, List.length_replicate, List.length_set, List.length_take, List.length_drop]) <;> omega)))
local macro_rules | `(tactic| walk_at "fr") => `(tactic| (first | assumption | (apply Or.inl; assumption) | (apply Or.inr; simp)))
local macro_rules | `(tactic| walk_at "ds") => `(tactic| dsimp only [a_lk0, a_lk1, a_lkS, a_V, a_vl, a_c, a_op, a_un, a_test, a_toB, a_tr, a_trB, a_trI, a_trN, a_and, a_or, a_not, a_andV, a_orV, a_notV, a_ifE, a_nil, a_cons, a_lst, a_tup, a_call, a_CB, a_BM, a_BM0, a_sl, a_part, a_partI, a_noPart, a_seq, a_next, a_brk, a_cont, a_asg, a_name, a_drop, a_ret, a_retN, a_if, a_aug, a_for, a_lc, a_jR1, a_jR2, a_jL, a_jT, a_rg1, a_rg2, a_gsub, a_yes, a_addI, a_addS, a_addR, a_iaddI, a_iaddS, a_sub, a_mulI, a_mulR, a_fdiv, a_mod, a_pow, a_shl, a_shr, a_lt, a_le, a_gt, a_ge, a_neg, a_EqI, a_EqS, a_EqB, a_EqNN, a_EqIN, a_EqNI, a_EqSN, a_EqNS, a_EqRR, a_EqRN, a_EqNR, a_NeI, a_NeS, a_NeB, a_NeNN, a_NeIN, a_NeNI, a_NeSN, a_NeNS, a_NeRR, a_NeRN, a_NeNR, a_isNN, a_isNI, a_isNS, a_isNB, a_isNR, a_notNN, a_notNI, a_notNS, a_notNB, a_notNR, a_intI, a_intB, a_abs, a_gnil, a_gcons, a_callS, a_raise0, a_tryAs, a_tryOnly, a_rev, a_jR3, wipe, List.set, List.nil_append, List.cons_append])
local macro_rules | `(tactic| walk_at "gs") => `(tactic| repeat (first | dsimp only [a_lk0, a_lk1, a_lkS, a_V, a_vl, a_c, a_op, a_un, a_test, a_toB, a_tr, a_trB, a_trI, a_trN, a_and, a_or, a_not, a_andV, a_orV, a_notV, a_ifE, a_nil, a_cons, a_lst, a_tup, a_call, a_CB, a_BM, a_BM0, a_sl, a_part, a_partI, a_noPart, a_seq, a_next, a_brk, a_cont, a_asg, a_name, a_drop, a_ret, a_retN, a_if, a_aug, a_for, a_lc, a_jR1, a_jR2, a_jL, a_jT, a_rg1, a_rg2, a_gsub, a_yes, a_addI, a_addS, a_addR, a_iaddI, a_iaddS, a_sub, a_mulI, a_mulR, a_fdiv, a_mod, a_pow, a_shl, a_shr, a_lt, a_le, a_gt, a_ge, a_neg, a_EqI, a_EqS, a_EqB, a_EqNN, a_EqIN, a_EqNI, a_EqSN, a_EqNS, a_EqRR, a_EqRN, a_EqNR, a_NeI, a_NeS, a_NeB, a_NeNN, a_NeIN, a_NeNI, a_NeSN, a_NeNS, a_NeRR, a_NeRN, a_NeNR, a_isNN, a_isNI, a_isNS, a_isNB, a_isNR, a_notNN, a_notNI, a_notNS, a_notNB, a_notNR, a_intI, a_intB, a_abs, a_gnil, a_gcons, a_callS, a_raise0, a_tryAs, a_tryOnly, a_rev, a_jR3, wipe, List.set, List.nil_append, List.cons_append] | with_reducible (first
  | (apply h_draw 0; (case h => assumption); (case e => with_unfolding_all rfl); (case e2 => with_unfolding_all rfl); (case h0 => (first | decide | omega)); (case h1 => (first | decide | omega)); (case h2 => (first | decide | omega)); (case hs => (first | assumption | (apply Or.inl; assumption) | (apply Or.inr; simp))))
  | (apply h_draw 1; (case h => assumption); (case e => with_unfolding_all rfl); (case e2 => with_unfolding_all rfl); (case h0 => (first | decide | omega)); (case h1 => (first | decide | omega)); (case h2 => (first | decide | omega)); (case hs => (first | assumption | (apply Or.inl; assumption) | (apply Or.inr; simp))))
  | (apply h_draw 2; (case h => assumption); (case e => with_unfolding_all rfl); (case e2 => with_unfolding_all rfl); (case h0 => (first | decide | omega)); (case h1 => (first | decide | omega)); (case h2 => (first | decide | omega)); (case hs => (first | assumption | (apply Or.inl; assumption) | (apply Or.inr; simp))))
  | (apply h_draw 3; (case h => assumption); (case e => with_unfolding_all rfl); (case e2 => with_unfolding_all rfl); (case h0 => (first | decide | omega)); (case h1 => (first | decide | omega)); (case h2 => (first | decide | omega)); (case hs => (first | assumption | (apply Or.inl; assumption) | (apply Or.inr; simp))))
  | (apply h_ixL 0; (case h => assumption); (case e => with_unfolding_all rfl); (case hx => with_unfolding_all rfl))
  | (apply h_ixL 1; (case h => assumption); (case e => with_unfolding_all rfl); (case hx => with_unfolding_all rfl))
  | (apply h_ixL 2; (case h => assumption); (case e => with_unfolding_all rfl); (case hx => with_unfolding_all rfl))
  | (apply h_ixL 3; (case h => assumption); (case e => with_unfolding_all rfl); (case hx => with_unfolding_all rfl))
  | (apply h_ixL 4; (case h => assumption); (case e => with_unfolding_all rfl); (case hx => with_unfolding_all rfl))
  | (apply h_ixTv; (case hd => (first | apply Im.int | apply Im.str | apply Im.bl | apply Im.non | assumption | (apply h_imm 0; (case h => assumption); (case e => with_unfolding_all rfl)) | (apply h_imm 1; (case h => assumption); (case e => with_unfolding_all rfl)) | (apply h_imm 2; (case h => assumption); (case e => with_unfolding_all rfl)) | (apply h_imm 3; (case h => assumption); (case e => with_unfolding_all rfl)) | (apply h_imm 4; (case h => assumption); (case e => with_unfolding_all rfl)) | (apply h_imm 5; (case h => assumption); (case e => with_unfolding_all rfl)))); (case h0 => (first | decide | omega)); (case hx => with_unfolding_all rfl); (case hv => with_unfolding_all rfl))
  | (apply h_slPre; (case h => assumption); (case hd => (first | apply Im.int | apply Im.str | apply Im.bl | apply Im.non | assumption | (apply h_imm 0; (case h => assumption); (case e => with_unfolding_all rfl)) | (apply h_imm 1; (case h => assumption); (case e => with_unfolding_all rfl)) | (apply h_imm 2; (case h => assumption); (case e => with_unfolding_all rfl)) | (apply h_imm 3; (case h => assumption); (case e => with_unfolding_all rfl)) | (apply h_imm 4; (case h => assumption); (case e => with_unfolding_all rfl)) | (apply h_imm 5; (case h => assumption); (case e => with_unfolding_all rfl)))); (case h0 => (first | decide | omega)))
  | (apply h_gtupV; (case h => (first | apply Im.int | apply Im.str | apply Im.bl | apply Im.non | assumption | (apply h_imm 0; (case h => assumption); (case e => with_unfolding_all rfl)) | (apply h_imm 1; (case h => assumption); (case e => with_unfolding_all rfl)) | (apply h_imm 2; (case h => assumption); (case e => with_unfolding_all rfl)) | (apply h_imm 3; (case h => assumption); (case e => with_unfolding_all rfl)) | (apply h_imm 4; (case h => assumption); (case e => with_unfolding_all rfl)) | (apply h_imm 5; (case h => assumption); (case e => with_unfolding_all rfl)))); (case hn => with_unfolding_all rfl); (case hv => with_unfolding_all rfl))
  | (apply h_isiB)
  | (apply h_eqr)
  | (apply iteT)
  | (apply h_nT)
  | (apply h_nF)
  | (apply iteF)
  | (apply h_brT)
  | (apply h_brF)
  | (apply h_brET)
  | (apply h_brEF)
  | (apply h_brNT)
  | (apply h_brNF)
  | (apply h_append 0; (case h => assumption); (case e => with_unfolding_all rfl); (case hs => (first | assumption | (apply Or.inl; assumption) | (apply Or.inr; simp))); (case z => (rw [sizeLine_eq]; ((try simp only [List.length_append, List.length_cons, List.length_nil, List.length_map, List.length_replicate, List.length_set, List.length_take, List.length_drop]) <;> omega))))
  | (apply h_append 1; (case h => assumption); (case e => with_unfolding_all rfl); (case hs => (first | assumption | (apply Or.inl; assumption) | (apply Or.inr; simp))); (case z => (rw [sizeLine_eq]; ((try simp only [List.length_append, List.length_cons, List.length_nil, List.length_map, List.length_replicate, List.length_set, List.length_take, List.length_drop]) <;> omega))))
  | (apply h_append 2; (case h => assumption); (case e => with_unfolding_all rfl); (case hs => (first | assumption | (apply Or.inl; assumption) | (apply Or.inr; simp))); (case z => (rw [sizeLine_eq]; ((try simp only [List.length_append, List.length_cons, List.length_nil, List.length_map, List.length_replicate, List.length_set, List.length_take, List.length_drop]) <;> omega))))
  | (apply h_append 3; (case h => assumption); (case e => with_unfolding_all rfl); (case hs => (first | assumption | (apply Or.inl; assumption) | (apply Or.inr; simp))); (case z => (rw [sizeLine_eq]; ((try simp only [List.length_append, List.length_cons, List.length_nil, List.length_map, List.length_replicate, List.length_set, List.length_take, List.length_drop]) <;> omega))))
  | (apply h_append 4; (case h => assumption); (case e => with_unfolding_all rfl); (case hs => (first | assumption | (apply Or.inl; assumption) | (apply Or.inr; simp))); (case z => (rw [sizeLine_eq]; ((try simp only [List.length_append, List.length_cons, List.length_nil, List.length_map, List.length_replicate, List.length_set, List.length_take, List.length_drop]) <;> omega))))
  | (apply h_appendD 0; (case h => assumption); (case e => with_unfolding_all rfl); (case hd => (first | apply Im.int | apply Im.str | apply Im.bl | apply Im.non | assumption | (apply h_imm 0; (case h => assumption); (case e => with_unfolding_all rfl)) | (apply h_imm 1; (case h => assumption); (case e => with_unfolding_all rfl)) | (apply h_imm 2; (case h => assumption); (case e => with_unfolding_all rfl)) | (apply h_imm 3; (case h => assumption); (case e => with_unfolding_all rfl)) | (apply h_imm 4; (case h => assumption); (case e => with_unfolding_all rfl)) | (apply h_imm 5; (case h => assumption); (case e => with_unfolding_all rfl)))); (case hs => (first | assumption | (apply Or.inl; assumption) | (apply Or.inr; simp))); (case z => (rw [sizeLine_eq]; ((try simp only [List.length_append, List.length_cons, List.length_nil, List.length_map, List.length_replicate, List.length_set, List.length_take, List.length_drop]) <;> omega))))
  | (apply h_appendD 1; (case h => assumption); (case e => with_unfolding_all rfl); (case hd => (first | apply Im.int | apply Im.str | apply Im.bl | apply Im.non | assumption | (apply h_imm 0; (case h => assumption); (case e => with_unfolding_all rfl)) | (apply h_imm 1; (case h => assumption); (case e => with_unfolding_all rfl)) | (apply h_imm 2; (case h => assumption); (case e => with_unfolding_all rfl)) | (apply h_imm 3; (case h => assumption); (case e => with_unfolding_all rfl)) | (apply h_imm 4; (case h => assumption); (case e => with_unfolding_all rfl)) | (apply h_imm 5; (case h => assumption); (case e => with_unfolding_all rfl)))); (case hs => (first | assumption | (apply Or.inl; assumption) | (apply Or.inr; simp))); (case z => (rw [sizeLine_eq]; ((try simp only [List.length_append, List.length_cons, List.length_nil, List.length_map, List.length_replicate, List.length_set, List.length_take, List.length_drop]) <;> omega))))
  | (apply h_appendD 2; (case h => assumption); (case e => with_unfolding_all rfl); (case hd => (first | apply Im.int | apply Im.str | apply Im.bl | apply Im.non | assumption | (apply h_imm 0; (case h => assumption); (case e => with_unfolding_all rfl)) | (apply h_imm 1; (case h => assumption); (case e => with_unfolding_all rfl)) | (apply h_imm 2; (case h => assumption); (case e => with_unfolding_all rfl)) | (apply h_imm 3; (case h => assumption); (case e => with_unfolding_all rfl)) | (apply h_imm 4; (case h => assumption); (case e => with_unfolding_all rfl)) | (apply h_imm 5; (case h => assumption); (case e => with_unfolding_all rfl)))); (case hs => (first | assumption | (apply Or.inl; assumption) | (apply Or.inr; simp))); (case z => (rw [sizeLine_eq]; ((try simp only [List.length_append, List.length_cons, List.length_nil, List.length_map, List.length_replicate, List.length_set, List.length_take, List.length_drop]) <;> omega))))
  | (apply h_appendD 3; (case h => assumption); (case e => with_unfolding_all rfl); (case hd => (first | apply Im.int | apply Im.str | apply Im.bl | apply Im.non | assumption | (apply h_imm 0; (case h => assumption); (case e => with_unfolding_all rfl)) | (apply h_imm 1; (case h => assumption); (case e => with_unfolding_all rfl)) | (apply h_imm 2; (case h => assumption); (case e => with_unfolding_all rfl)) | (apply h_imm 3; (case h => assumption); (case e => with_unfolding_all rfl)) | (apply h_imm 4; (case h => assumption); (case e => with_unfolding_all rfl)) | (apply h_imm 5; (case h => assumption); (case e => with_unfolding_all rfl)))); (case hs => (first | assumption | (apply Or.inl; assumption) | (apply Or.inr; simp))); (case z => (rw [sizeLine_eq]; ((try simp only [List.length_append, List.length_cons, List.length_nil, List.length_map, List.length_replicate, List.length_set, List.length_take, List.length_drop]) <;> omega))))
  | (apply h_appendD 4; (case h => assumption); (case e => with_unfolding_all rfl); (case hd => (first | apply Im.int | apply Im.str | apply Im.bl | apply Im.non | assumption | (apply h_imm 0; (case h => assumption); (case e => with_unfolding_all rfl)) | (apply h_imm 1; (case h => assumption); (case e => with_unfolding_all rfl)) | (apply h_imm 2; (case h => assumption); (case e => with_unfolding_all rfl)) | (apply h_imm 3; (case h => assumption); (case e => with_unfolding_all rfl)) | (apply h_imm 4; (case h => assumption); (case e => with_unfolding_all rfl)) | (apply h_imm 5; (case h => assumption); (case e => with_unfolding_all rfl)))); (case hs => (first | assumption | (apply Or.inl; assumption) | (apply Or.inr; simp))); (case z => (rw [sizeLine_eq]; ((try simp only [List.length_append, List.length_cons, List.length_nil, List.length_map, List.length_replicate, List.length_set, List.length_take, List.length_drop]) <;> omega))))
  | (apply h_tyL 0; (case h => assumption); (case e => with_unfolding_all rfl))
  | (apply h_tyL 1; (case h => assumption); (case e => with_unfolding_all rfl))
  | (apply h_tyL 2; (case h => assumption); (case e => with_unfolding_all rfl))
  | (apply h_tyL 3; (case h => assumption); (case e => with_unfolding_all rfl))
  | (apply h_tyL 4; (case h => assumption); (case e => with_unfolding_all rfl))
  | (apply h_tyD 0; (case h => assumption); (case e => with_unfolding_all rfl))
  | (apply h_tyD 1; (case h => assumption); (case e => with_unfolding_all rfl))
  | (apply h_tyD 2; (case h => assumption); (case e => with_unfolding_all rfl))
  | (apply h_tyD 3; (case h => assumption); (case e => with_unfolding_all rfl))
  | (apply h_tyD 4; (case h => assumption); (case e => with_unfolding_all rfl))
  | (apply h_tyS)
  | (apply h_lenL 0; (case h => assumption); (case e => with_unfolding_all rfl))
  | (apply h_lenL 1; (case h => assumption); (case e => with_unfolding_all rfl))
  | (apply h_lenL 2; (case h => assumption); (case e => with_unfolding_all rfl))
  | (apply h_lenL 3; (case h => assumption); (case e => with_unfolding_all rfl))
  | (apply h_lenL 4; (case h => assumption); (case e => with_unfolding_all rfl))
  | (apply h_lenD 0; (case h => assumption); (case e => with_unfolding_all rfl))
  | (apply h_lenD 1; (case h => assumption); (case e => with_unfolding_all rfl))
  | (apply h_lenD 2; (case h => assumption); (case e => with_unfolding_all rfl))
  | (apply h_lenD 3; (case h => assumption); (case e => with_unfolding_all rfl))
  | (apply h_lenD 4; (case h => assumption); (case e => with_unfolding_all rfl))
  | (apply h_setL 0; (case h => assumption); (case e => with_unfolding_all rfl); (case hs => (first | assumption | (apply Or.inl; assumption) | (apply Or.inr; simp))); (case hi => with_unfolding_all rfl))
  | (apply h_setL 1; (case h => assumption); (case e => with_unfolding_all rfl); (case hs => (first | assumption | (apply Or.inl; assumption) | (apply Or.inr; simp))); (case hi => with_unfolding_all rfl))
  | (apply h_setL 2; (case h => assumption); (case e => with_unfolding_all rfl); (case hs => (first | assumption | (apply Or.inl; assumption) | (apply Or.inr; simp))); (case hi => with_unfolding_all rfl))
  | (apply h_setL 3; (case h => assumption); (case e => with_unfolding_all rfl); (case hs => (first | assumption | (apply Or.inl; assumption) | (apply Or.inr; simp))); (case hi => with_unfolding_all rfl))
  | (apply h_setL 4; (case h => assumption); (case e => with_unfolding_all rfl); (case hs => (first | assumption | (apply Or.inl; assumption) | (apply Or.inr; simp))); (case hi => with_unfolding_all rfl))
  | (apply h_isLn 0; (case h => assumption); (case e => with_unfolding_all rfl))
  | (apply h_isLn 1; (case h => assumption); (case e => with_unfolding_all rfl))
  | (apply h_isLn 2; (case h => assumption); (case e => with_unfolding_all rfl))
  | (apply h_isLn 3; (case h => assumption); (case e => with_unfolding_all rfl))
  | (apply h_isLn 4; (case h => assumption); (case e => with_unfolding_all rfl))
  | (apply h_isLd 0; (case h => assumption); (case e => with_unfolding_all rfl))
  | (apply h_isLd 1; (case h => assumption); (case e => with_unfolding_all rfl))
  | (apply h_isLd 2; (case h => assumption); (case e => with_unfolding_all rfl))
  | (apply h_isLd 3; (case h => assumption); (case e => with_unfolding_all rfl))
  | (apply h_isLd 4; (case h => assumption); (case e => with_unfolding_all rfl))
  | (apply h_isT; (case h => (first | apply Im.int | apply Im.str | apply Im.bl | apply Im.non | assumption | (apply h_imm 0; (case h => assumption); (case e => with_unfolding_all rfl)) | (apply h_imm 1; (case h => assumption); (case e => with_unfolding_all rfl)) | (apply h_imm 2; (case h => assumption); (case e => with_unfolding_all rfl)) | (apply h_imm 3; (case h => assumption); (case e => with_unfolding_all rfl)) | (apply h_imm 4; (case h => assumption); (case e => with_unfolding_all rfl)) | (apply h_imm 5; (case h => assumption); (case e => with_unfolding_all rfl)))))
  | (apply h_tupOf 0; (case h => assumption); (case e => with_unfolding_all rfl))
  | (apply h_tupOf 1; (case h => assumption); (case e => with_unfolding_all rfl))
  | (apply h_tupOf 2; (case h => assumption); (case e => with_unfolding_all rfl))
  | (apply h_tupOf 3; (case h => assumption); (case e => with_unfolding_all rfl))
  | (apply h_tupOf 4; (case h => assumption); (case e => with_unfolding_all rfl))
  | (apply h_listOf 0; (case h => assumption); (case e => with_unfolding_all rfl))
  | (apply h_listOf 1; (case h => assumption); (case e => with_unfolding_all rfl))
  | (apply h_listOf 2; (case h => assumption); (case e => with_unfolding_all rfl))
  | (apply h_listOf 3; (case h => assumption); (case e => with_unfolding_all rfl))
  | (apply h_listOf 4; (case h => assumption); (case e => with_unfolding_all rfl))
  | (apply h_lst; (case h => assumption); (case z => (rw [sizeLine_eq]; ((try simp only [List.length_append, List.length_cons, List.length_nil, List.length_map, List.length_replicate, List.length_set, List.length_take, List.length_drop]) <;> omega))))
  | (apply h_tup; (case h => assumption); (case z => (rw [sizeLine_eq]; ((try simp only [List.length_append, List.length_cons, List.length_nil, List.length_map, List.length_replicate, List.length_set, List.length_take, List.length_drop]) <;> omega))); (case hd => repeat (first | apply Ims.nil | (apply Ims.cons; (focus (first | apply Im.int | apply Im.str | apply Im.bl | apply Im.non | assumption | (apply h_imm 0; (case h => assumption); (case e => with_unfolding_all rfl)) | (apply h_imm 1; (case h => assumption); (case e => with_unfolding_all rfl)) | (apply h_imm 2; (case h => assumption); (case e => with_unfolding_all rfl)) | (apply h_imm 3; (case h => assumption); (case e => with_unfolding_all rfl)) | (apply h_imm 4; (case h => assumption); (case e => with_unfolding_all rfl)) | (apply h_imm 5; (case h => assumption); (case e => with_unfolding_all rfl))))))))
  | (apply And.intro; (case left => (first | decide | omega)))
  | (apply h_mr; (case h1 => (first | decide | omega)); (case h2 => (first | decide | omega)))
  | (apply h_ml; (case h1 => (first | decide | omega)); (case h2 => (first | decide | omega)))
  | (apply h_dv; (case h1 => (first | decide | omega)); (case h2 => (first | decide | omega)))
  | (apply h_pw; (case h1 => (first | decide | omega)); (case h2 => (first | decide | omega)); (case h3 => decide))
  | (apply And.intro; (case left => (rw [sizeLine_eq]; ((try simp only [List.length_append, List.length_cons, List.length_nil, List.length_map, List.length_replicate, List.length_set, List.length_take, List.length_drop]) <;> omega))))) | with_reducible intro))

def t__law_cell (K : PySem.W.Frag) (A : Ad) : TS :=
  (tSeq (mIf (mTest (tOp mLt (mV 1) (tCB (hLen K) (tCons (mV 0) tNil))))
    (tRet (tOp (rIx K) (mV 0) (mV 1)))
    tNext)
  (tRet (tC (.int 0))))
theorem rd__law_cell {K : PySem.W.Frag} {A : Ad} {vs : List V} {H : Hp} {Q : VK} {E : XK} (h : sp__law_cell K A vs H Q E) : t__law_cell K A { nx := fun _ H' => Q .non H', rt := Q } (start ["_law_script", "_law_k"] vs) H := by
  obtain ⟨a, ns, i, rfl, hS, hi, k⟩ := h
  show t__law_cell K A _ [some (.ref a), some (.int i)] H
  unfold t__law_cell
  walk_at "gs"
  refine h_lenQ hS ?_
  walk_at "gs"
  rw [List.length_map]
  refine h_br (fun hc => ?_) (fun hc => ?_)
  · walk_at "gs"
    exact h_ixQ hS (at_ints hi hc) (k _ _ (Same.refl H))
  · walk_at "gs"
    exact k _ _ (Same.refl H)
def t__law_draw (K : PySem.W.Frag) (A : Ad) : TS :=
  (tSeq (tAsg (tOp (rIx K) (mV 0) (tC (.int 1))) (gName 2))
  (tSeq (tAsg (tOp (mAdd K) (mV 2) (tC (.int 1))) (gSub (mV 0) (tC (.int 1)) rSetL))
  (tSeq (mIf (mTest (tOp mLt (mV 2) (tCB (hLen K) (tCons (tOp (rIx K) (mV 0) (tC (.int 0))) tNil))))
    (tRet (tOp mMod (tCB mInt (tCons (tOp (rIx K) (tOp (rIx K) (mV 0) (tC (.int 0))) (mV 2)) tNil)) (mV 1)))
    tNext)
  (tRet (tOp mMod (tCB mInt (tCons (tOp (mAdd K) (tOp mMul (mV 2) (tC (.int 7))) (tC (.int 3))) tNil)) (mV 1))))))
theorem rd__law_draw {K : PySem.W.Frag} {A : Ad} {vs : List V} {H : Hp} {Q : VK} {E : XK} (h : sp__law_draw K A vs H Q E) : t__law_draw K A { nx := fun _ H' => Q .non H', rt := Q } (start ["_law_box", "_law_many", "_law_at"] vs) H := by
  obtain ⟨b, g, ds, i, m, rfl, hb, hg, hbg, hi, hi2, hm, k⟩ := h
  show t__law_draw K A _ [some (.ref b), some (.int m), none] H
  unfold t__law_draw
  have hL : Led K H [b] H [(b, .raw (.lst [.ref g, .int i])), (g, .raw (.lst (ds.map V.int)))] [] := Led.mk2 hb hg hbg
  walk_at "gs"
  rename_i H1 h1
  rw [List.length_map]
  have fin : ∀ z, Q (.int (z % m)) H1 := fun z => k _ H1 (Int.emod_nonneg _ (by omega)) (Int.emod_lt_of_pos _ hm) h1.kp (h1.raw 0 rfl)
  refine h_br (fun hc => ?_) (fun hc => ?_)
  · walk_at "gs"
    refine h_ixL (n := 1) h1 rfl (at_ints hi hc) ?_
    walk_at "gs"
    exact fin _
  · walk_at "gs"
    exact fin _
def t__law_digits (K : PySem.W.Frag) (A : Ad) : TS :=
  (tSeq (tAsg (tLst tNil) (gName 3))
  (tSeq (tFor (jR2 (tCons (mV 1) (tCons (mV 2) tNil))) (gName 4)
    (tSeq (tAsg (tCall (sp__law_cell K A) [] E0 (tCons (mV 0) (tCons (mV 4) tNil))) (gName 5))
  (mCut (mIf (mTest (tOp mLt (mV 5) (tC (.int 0))))
    (tAsg (tOp mSub (tC (.int 1)) (tOp mMul (tC (.int 2)) (mV 5))) (gName 5))
    tNext)
  (mIf (mTest (tOp mGe (mV 5) (tOp mPow (tC (.int 10)) (tC (.int 18)))))
    (tFor (jR1 (tCons (tC (.int 60)) tNil)) (gName 6)
    (mIf (mTest (tOp mGt (mV 5) (tC (.int 0))))
    (tSeq (tDrop (tBM K "list" rAppend (mV 3) (tCons (tOp mMod (tCB mInt (tCons (mV 5) tNil)) (tC (.int 1000))) tNil)))
  (tAsg (tOp mFdiv (mV 5) (tC (.int 1000))) (gName 5)))
    tNext))
    (tSeq (tAsg (tOp mMod (tCB mInt (tCons (tOp (mAdd K) (tOp (mAdd K) (tOp mMul (mV 5) (tC (.int 48271))) (tOp mMul (mV 4) (tC (.int 69621)))) (tC (.int 11))) tNil)) (tC (.int 2147483647))) (gName 7))
  (tFor (jR1 (tCons (tC (.int 12)) tNil)) (gName 6)
    (tSeq (tAsg (tOp mMod (tCB mInt (tCons (tOp (mAdd K) (tOp (mAdd K) (tOp mMul (mV 7) (tC (.int 16807))) (tOp mMul (tC (.int 7)) (mV 6))) (tC (.int 1))) tNil)) (tC (.int 2147483647))) (gName 7))
  (tDrop (tBM K "list" rAppend (mV 3) (tCons (tOp mMod (tCB mInt (tCons (tOp mFdiv (mV 7) (tC (.int 997))) tNil)) (tC (.int 1000))) tNil))))))))))
  (tRet (mV 3))))
theorem rd__law_digits {K : PySem.W.Frag} {A : Ad} {vs : List V} {H : Hp} {Q : VK} {E : XK} (h : sp__law_digits K A vs H Q E) :
    t__law_digits K A { nx := fun _ H' => Q .non H', rt := Q } (start ["_law_script", "_law_first", "_law_last", "_law_digits_here", "_law_k", "_law_cell_here", "_law_turn", "_law_seed"] vs) H := by
  obtain ⟨a, ns, f, l, rfl, hS, hf, hf2, hl, hl2, k⟩ := h
  show t__law_digits K A _ [some (.ref a), some (.int f), some (.int l), none, none, none, none, none] H
  unfold t__law_digits
  have hL : Led K H [] H [] [] := Led.start
  walk_at "gs"
  rename_i p H1 np h1
  have np : H p = none := np.elim id fun z => nomatch z
  refine lpR (fun i σ H2 => ∃ (ds : List Int) (y4 y5 y6 y7 : Option V), σ = [some (.ref a), some (.int f), some (.int l), some (.ref p), y4, y5, y6, y7] ∧ ds.length ≤ 60 * i ∧ Led K H [] H2 [(p, .raw (.lst (ds.map V.int)))] [])
    ⟨[], none, none, none, none, rfl, Nat.le_refl _, h1⟩ ?_ ?_
  · rintro i σ H2 hi ⟨ds, y4, y5, y6, y7, rfl, hz, h2⟩
    walk_at "gs"
    refine ⟨a, ns, f + i, rfl, Same.seq (KBs.same h2.kp) hS, by omega, fun z H3 s3 => ?_⟩
    have h3 := h2.same s3
    walk_at "gs"
    refine h_cut (fun σ H4 => ∃ z : Int, σ = [some (.ref a), some (.int f), some (.int l), some (.ref p), some (.int (f + i)), some (.int z), y6, y7] ∧ Led K H [] H4 [(p, .raw (.lst (ds.map V.int)))] []) ?_ ?_
    · walk_at "gs"
      refine h_br (fun hc => ?_) (fun hc => ?_)
      · walk_at "gs"
        exact ⟨_, rfl, h3⟩
      · walk_at "gs"
        exact ⟨_, rfl, h3⟩
    · rintro σ H4 ⟨z, rfl, h4⟩
      walk_at "gs"
      refine h_br (fun hc => ?_) (fun hc => ?_)
      · walk_at "gs"
        refine lpR (fun j σ H5 => ∃ (ds : List Int) (z : Int) (y6 : Option V), σ = [some (.ref a), some (.int f), some (.int l), some (.ref p), some (.int (f + i)), some (.int z), y6, y7] ∧ ds.length ≤ 60 * i + j ∧ Led K H [] H5 [(p, .raw (.lst (ds.map V.int)))] [])
          ⟨ds, z, y6, rfl, hz, h4⟩ ?_ ?_
        · rintro j σ H5 hj ⟨ds, z, y6, rfl, hz, h5⟩
          walk_at "gs"
          refine h_br (fun hc => ?_) (fun hc => ?_)
          · walk_at "gs"
            rename_i H6 h6
            rw [map_snoc] at h6
            exact ⟨_, _, _, rfl, by rw [List.length_append]; show ds.length + 1 ≤ _; omega, h6⟩
          · walk_at "gs"
            exact ⟨ds, z, _, rfl, by omega, h5⟩
        · rintro σ H5 ⟨ds, z, y6, rfl, hz, h5⟩
          walk_at "gs"
          exact ⟨ds, _, _, _, _, rfl, by simp at hz; omega, h5⟩
      · walk_at "gs"
        refine lpR (fun j σ H5 => ∃ (ds : List Int) (w : Int) (y6 : Option V), σ = [some (.ref a), some (.int f), some (.int l), some (.ref p), some (.int (f + i)), some (.int z), y6, some (.int w)] ∧ (0 ≤ w ∧ w < 2147483647) ∧ ds.length ≤ 60 * i + j ∧ Led K H [] H5 [(p, .raw (.lst (ds.map V.int)))] [])
          ⟨ds, _, y6, rfl, ⟨Int.emod_nonneg _ (by decide), Int.emod_lt_of_pos _ (by decide)⟩, hz, h4⟩ ?_ ?_
        · rintro j σ H5 hj ⟨ds, w, y6, rfl, ⟨hw, hw2⟩, hz, h5⟩
          walk_at "gs"
          rename_i H6 h6
          rw [map_snoc] at h6
          exact ⟨_, _, _, rfl, ⟨Int.emod_nonneg _ (by decide), Int.emod_lt_of_pos _ (by decide)⟩, by rw [List.length_append]; show ds.length + 1 ≤ _; omega, h6⟩
        · rintro σ H5 ⟨ds, w, y6, rfl, hw, hz, h5⟩
          walk_at "gs"
          exact ⟨ds, _, _, _, _, rfl, by simp at hz; omega, h5⟩
  · rintro σ H2 ⟨ds, y4, y5, y6, y7, rfl, hz, h2⟩
    walk_at "gs"
    exact k p H2 ds (KBs.same h2.kp) np (h2.raw 0 rfl)

/-! ### digits to a base -/
def vn (b : Int) : List Int → Int
  | [] => 0
  | x :: r => x + b * vn b r
def dg (b : Int) : Nat → Int → List Int
  | 0, _ => []
  | n + 1, z => z % b :: dg b n (z / b)
theorem dg_len (b : Int) : ∀ (n : Nat) (z : Int), (dg b n z).length = n
  | 0, _ => rfl
  | n + 1, z => by rw [dg, List.length_cons, dg_len b n]
theorem dg_app {b : Int} (hb : 0 < b) : ∀ (n m : Nat) (z : Int), dg b (n + m) z = dg b n z ++ dg b m (z / b ^ n)
  | 0, m, z => by rw [Nat.zero_add, Int.pow_zero, Int.ediv_one]; rfl
  | n + 1, m, z => by
    rw [show n + 1 + m = (n + m) + 1 by omega, dg, dg_app hb n m, dg, Int.ediv_ediv_of_nonneg (by omega), Int.pow_succ, Int.mul_comm]
    rfl
theorem dg_snoc {b : Int} (hb : 0 < b) (n : Nat) (z : Int) : dg b (n + 1) z = dg b n z ++ [z / b ^ n % b] := dg_app hb n 1 z
theorem dg_mod {b : Int} (hb : 0 < b) : ∀ (n : Nat) (z : Int), dg b n (z % b ^ n) = dg b n z
  | 0, _ => rfl
  | n + 1, z => by
    have hp : 0 < b ^ n := Int.pow_pos hb
    have e : b ^ (n + 1) = b * b ^ n := by rw [Int.pow_succ, Int.mul_comm]
    rw [dg, dg, e]
    have h1 : z % (b * b ^ n) % b = z % b := Int.emod_emod_of_dvd z (Int.dvd_mul_right b (b ^ n))
    have h2 : z % (b * b ^ n) / b = z / b % b ^ n := by
      rw [Int.emod_def z (b * b ^ n), Int.emod_def (z / b) (b ^ n), Int.ediv_ediv_of_nonneg (by omega), Int.mul_assoc, Int.sub_eq_add_neg, Int.neg_mul_eq_mul_neg, Int.add_mul_ediv_left _ _ (by omega), Int.sub_eq_add_neg]
    rw [h1, h2, dg_mod hb n]
theorem dg_take {b : Int} (hb : 0 < b) (n k : Nat) (h : k ≤ n) (z : Int) : (dg b n z).take k = dg b k z := by
  obtain ⟨m, rfl⟩ := Nat.exists_eq_add_of_le h
  rw [dg_app hb, List.take_left' (dg_len b k z)]
theorem dg_drop {b : Int} (hb : 0 < b) (n k : Nat) (h : k ≤ n) (z : Int) : (dg b n z).drop k = dg b (n - k) (z / b ^ k) := by
  obtain ⟨m, rfl⟩ := Nat.exists_eq_add_of_le h
  rw [dg_app hb, List.drop_left' (dg_len b k z), Nat.add_sub_cancel_left]
theorem dg_rng {b : Int} (hb : 0 < b) : ∀ (n : Nat) (z x : Int), x ∈ dg b n z → 0 ≤ x ∧ x < b
  | 0, _, _, h => nomatch h
  | n + 1, z, x, h => by
    rcases List.mem_cons.mp h with h | h
    · rw [h]
      exact ⟨Int.emod_nonneg _ (by omega), Int.emod_lt_of_pos _ hb⟩
    · exact dg_rng hb n _ x h
theorem vn_app (b : Int) : ∀ l r : List Int, vn b (l ++ r) = vn b l + b ^ l.length * vn b r
  | [], r => by simp [vn]
  | x :: l, r => by
    rw [List.cons_append, vn, vn, vn_app b l r, List.length_cons, Int.pow_succ, Int.mul_add, Int.add_assoc, Int.mul_comm (b ^ l.length) b, Int.mul_assoc]
theorem vn_dg {b : Int} (hb : 0 < b) : ∀ (n : Nat) (z : Int), vn b (dg b n z) = z % b ^ n
  | 0, z => by rw [Int.pow_zero, Int.emod_one]; rfl
  | n + 1, z => by
    have hp : 0 < b ^ n := Int.pow_pos hb
    have e : b ^ (n + 1) = b * b ^ n := by rw [Int.pow_succ, Int.mul_comm]
    rw [dg, vn, vn_dg hb n, e]
    have h2 : z % (b * b ^ n) / b = z / b % b ^ n := by
      rw [Int.emod_def z (b * b ^ n), Int.emod_def (z / b) (b ^ n), Int.ediv_ediv_of_nonneg (by omega), Int.mul_assoc, Int.sub_eq_add_neg, Int.neg_mul_eq_mul_neg, Int.add_mul_ediv_left _ _ (by omega), Int.sub_eq_add_neg]
    have h1 : z % (b * b ^ n) % b = z % b := Int.emod_emod_of_dvd z (Int.dvd_mul_right b (b ^ n))
    have h3 := Int.emod_add_mul_ediv (z % (b * b ^ n)) b
    rw [h1, h2] at h3
    exact h3
theorem vn_rng {b : Int} (hb : 0 < b) : ∀ l : List Int, (∀ x ∈ l, 0 ≤ x ∧ x < b) → 0 ≤ vn b l ∧ vn b l < b ^ l.length
  | [], _ => ⟨Int.le_refl _, by rw [List.length_nil, Int.pow_zero]; exact (by decide : (0 : Int) < 1)⟩
  | x :: l, h => by
    obtain ⟨h1, h2⟩ := h x List.mem_cons_self
    obtain ⟨h3, h4⟩ := vn_rng hb l fun y hy => h y (List.mem_cons_of_mem _ hy)
    rw [vn, List.length_cons, Int.pow_succ]
    have h5 : 0 ≤ b * vn b l := Int.mul_nonneg (by omega) h3
    have h6 : b * vn b l ≤ b * (b ^ l.length - 1) := Int.mul_le_mul_of_nonneg_left (by omega) (by omega)
    rw [Int.mul_sub, Int.mul_one] at h6
    rw [Int.mul_comm (b ^ l.length) b]
    omega
theorem dg_vn {b : Int} (hb : 0 < b) : ∀ l : List Int, (∀ x ∈ l, 0 ≤ x ∧ x < b) → dg b l.length (vn b l) = l
  | [], _ => rfl
  | x :: l, h => by
    obtain ⟨h1, h2⟩ := h x List.mem_cons_self
    rw [List.length_cons, dg, vn, Int.add_mul_emod_self_left, Int.emod_eq_of_lt h1 h2, Int.add_mul_ediv_left _ _ (by omega), Int.ediv_eq_zero_of_lt h1 h2, Int.zero_add, dg_vn hb l fun y hy => h y (List.mem_cons_of_mem _ hy)]
/-- bits of bytes -/
theorem dg_bytes : ∀ (n : Nat) (z : Int), (dg 256 n z).flatMap (dg 2 8) = dg 2 (8 * n) z
  | 0, _ => rfl
  | n + 1, z => by
    rw [dg, List.flatMap_cons, dg_bytes n, show 8 * (n + 1) = 8 + 8 * n by omega, dg_app (by decide) 8 (8 * n) z]
    have e : z % 256 = z % 2 ^ 8 := rfl
    rw [e, dg_mod (by decide)]
    rfl
theorem bits_vn {l : List Int} (h : ∀ x ∈ l, 0 ≤ x ∧ x < 256) : l.flatMap (dg 2 8) = dg 2 (8 * l.length) (vn 256 l) := by
  have e := dg_vn (b := 256) (by decide) l h
  have q := dg_bytes l.length (vn 256 l)
  rw [e] at q
  exact q
theorem dg_get {b : Int} (hb : 0 < b) (n k : Nat) (h : k < n) (z : Int) : (dg b n z).getD k 0 = z / b ^ k % b := by
  have e := dg_drop hb n k (by omega) z
  rw [List.getD_eq_getElem?_getD]
  have q : (dg b n z)[k]? = ((dg b n z).drop k)[0]? := by rw [List.getElem?_drop, Nat.add_zero]
  rw [q, e, show n - k = (n - k - 1) + 1 by omega, dg]
  rfl
theorem mod_snoc (m : Nat) (y : Int) : y % 2 ^ (m + 1) = y % 2 ^ m + 2 ^ m * (y / 2 ^ m % 2) := by
  have h := vn_dg (b := 2) (by decide) (m + 1) y
  rw [dg_snoc (by decide), vn_app, vn_dg (by decide), dg_len] at h
  rw [← h]
  simp [vn]
/-! ### words -/
def Byt (ds : List Int) : Prop := ∀ b ∈ ds, 0 ≤ b ∧ b < 256
def ord (big : Bool) (l : List Int) : List Int := if big = true then l.reverse else l
def seg (ds : List Int) (o n : Nat) : List Int := (ds.take (o + n)).drop o
def wnum (ds : List Int) (o n : Nat) (big : Bool) : Int := vn 256 (ord big (seg ds o n))
def putSeg (ds : List Int) (o : Nat) (s : List Int) : List Int := ds.take o ++ s ++ ds.drop (o + s.length)
def put (ds : List Int) (o n : Nat) (big : Bool) (z : Int) : List Int := putSeg ds o (ord big (dg 256 n z))
def lo (w : Nat) (s : Bool) : Int := if s = true then 0 - 2 ^ (w - 1) else 0
def hi (w : Nat) (s : Bool) : Int := if s = true then 2 ^ (w - 1) - 1 else 2 ^ w - 1
def sgn (w : Nat) (s : Bool) (z : Int) : Int := if s = true ∧ 2 ^ (w - 1) ≤ z then z - 2 ^ w else z
def rslot (ds : List Int) (o n : Nat) (big : Bool) (f w : Nat) (s : Bool) : Int := sgn w s (wnum ds o n big / 2 ^ f % 2 ^ w)
def nslot (N : Int) (f w : Nat) (v : Int) : Int := N + (v % 2 ^ w - N / 2 ^ f % 2 ^ w) * 2 ^ f
def wslot (ds : List Int) (o n : Nat) (big : Bool) (f w : Nat) (v : Int) : List Int := put ds o n big (nslot (wnum ds o n big) f w v)
theorem ord_len (big : Bool) (l : List Int) : (ord big l).length = l.length := by
  unfold ord
  split
  · exact List.length_reverse
  · rfl
theorem ord_ord (big : Bool) (l : List Int) : ord big (ord big l) = l := by
  cases big
  · rfl
  · exact List.reverse_reverse l
theorem ord_mem {big : Bool} {l : List Int} {x : Int} : x ∈ ord big l ↔ x ∈ l := by
  cases big
  · exact Iff.rfl
  · exact List.mem_reverse
theorem seg_len {ds : List Int} {o n : Nat} (h : o + n ≤ ds.length) : (seg ds o n).length = n := by
  unfold seg
  rw [List.length_drop, List.length_take]
  omega
theorem seg_byt {ds : List Int} {o n : Nat} (h : Byt ds) : Byt (seg ds o n) := fun b hb => h b (List.mem_of_mem_take (List.mem_of_mem_drop hb))
theorem seg_get {ds : List Int} {o n i : Nat} (h : i < n) : (seg ds o n).getD i 0 = ds.getD (o + i) 0 := by
  unfold seg
  rw [List.getD_eq_getElem?_getD, List.getElem?_drop, List.getElem?_take_of_lt (by omega), List.getD_eq_getElem?_getD]
theorem ord_get {big : Bool} {l : List Int} {i : Nat} (h : i < l.length) : (ord big l).getD i 0 = l.getD (if big = true then l.length - 1 - i else i) 0 := by
  cases big
  · rfl
  · simp only [ord, if_true, List.getD_eq_getElem?_getD]
    rw [List.getElem?_reverse h]
theorem putSeg_seg {ds : List Int} {o n : Nat} (h : o + n ≤ ds.length) : putSeg ds o (seg ds o n) = ds := by
  unfold putSeg
  rw [seg_len h]
  have e : ds.take o ++ seg ds o n = ds.take (o + n) := by
    have q := List.take_append_drop o (ds.take (o + n))
    rw [List.take_take, Nat.min_eq_left (by omega)] at q
    exact q
  rw [e, List.take_append_drop]
theorem putSeg_len {ds s : List Int} {o : Nat} (h : o + s.length ≤ ds.length) : (putSeg ds o s).length = ds.length := by
  unfold putSeg
  rw [List.length_append, List.length_append, List.length_take, List.length_drop]
  omega
theorem putSeg_set {ds s : List Int} {o i : Nat} {z : Int} (h : o + s.length ≤ ds.length) (hi : i < s.length) : (putSeg ds o s).set (o + i) z = putSeg ds o (s.set i z) := by
  unfold putSeg
  have e : (ds.take o).length = o := by rw [List.length_take]; omega
  rw [List.append_assoc, List.set_append_right (o + i) z (by omega), e, Nat.add_sub_cancel_left, List.set_append_left i z hi, List.length_set, List.append_assoc]
theorem putSeg_putSeg {ds s t : List Int} {o : Nat} (h : o + s.length ≤ ds.length) (hst : s.length = t.length) : putSeg (putSeg ds o s) o t = putSeg ds o t := by
  unfold putSeg
  have e : (ds.take o).length = o := by rw [List.length_take]; omega
  have e2 : (ds.take o ++ s).length = o + t.length := by rw [List.length_append, e, hst]
  rw [List.append_assoc (ds.take o) s, List.take_left' e, ← List.append_assoc (ds.take o) s, List.drop_left' e2, hst]
theorem seg_putSeg {ds s : List Int} {o : Nat} (h : o + s.length ≤ ds.length) : seg (putSeg ds o s) o s.length = s := by
  unfold seg putSeg
  have e : (ds.take o).length = o := by rw [List.length_take]; omega
  have e2 : (ds.take o ++ s).length = o + s.length := by rw [List.length_append, e]
  rw [List.take_left' e2, List.drop_left' e]
theorem ord_set {big : Bool} {l : List Int} {i : Nat} {z : Int} (h : i < l.length) : (ord big l).set (if big = true then l.length - 1 - i else i) z = ord big (l.set i z) := by
  cases big
  · rfl
  · simp only [ord, if_true]
    refine List.ext_getElem? fun j => ?_
    by_cases hj : j < l.length
    · rw [List.getElem?_set, List.getElem?_reverse hj, List.getElem?_reverse (by rw [List.length_set]; exact hj), List.length_set, List.getElem?_set, List.length_reverse]
      by_cases e : l.length - 1 - i = j
      · rw [if_pos e, if_pos (by omega), if_pos (by omega), if_pos (by omega)]
      · rw [if_neg e, if_neg (by omega)]
    · rw [List.getElem?_eq_none (by rw [List.length_set, List.length_reverse]; omega), List.getElem?_eq_none (by rw [List.length_reverse, List.length_set]; omega)]
theorem byt_putSeg {ds s : List Int} {o : Nat} (h : Byt ds) (hs : Byt s) : Byt (putSeg ds o s) := fun b hb => by
  rcases List.mem_append.mp hb with hb | hb
  · rcases List.mem_append.mp hb with hb | hb
    · exact h b (List.mem_of_mem_take hb)
    · exact hs b hb
  · exact h b (List.mem_of_mem_drop hb)
theorem byt_ord {big : Bool} {s : List Int} (h : Byt s) : Byt (ord big s) := fun b hb => h b (ord_mem.mp hb)
theorem byt_dg (n : Nat) (z : Int) : Byt (dg 256 n z) := fun b hb => dg_rng (by decide) n z b hb
theorem put_len {ds : List Int} {o n : Nat} {big : Bool} {z : Int} (h : o + n ≤ ds.length) : (put ds o n big z).length = ds.length := putSeg_len (by rw [ord_len, dg_len]; exact h)
theorem byt_put {ds : List Int} {o n : Nat} {big : Bool} {z : Int} (h : Byt ds) : Byt (put ds o n big z) := byt_putSeg h (byt_ord (byt_dg n z))
theorem wnum_rng {ds : List Int} {o n : Nat} {big : Bool} (h : Byt ds) (hn : o + n ≤ ds.length) : 0 ≤ wnum ds o n big ∧ wnum ds o n big < 256 ^ n := by
  have q := vn_rng (b := 256) (by decide) (ord big (seg ds o n)) (byt_ord (seg_byt h))
  rw [ord_len, seg_len hn] at q
  exact q
theorem wnum_put {ds : List Int} {o n : Nat} {big : Bool} {z : Int} (hn : o + n ≤ ds.length) : wnum (put ds o n big z) o n big = z % 256 ^ n := by
  have l : (ord big (dg 256 n z)).length = n := by rw [ord_len, dg_len]
  have q := seg_putSeg (ds := ds) (s := ord big (dg 256 n z)) (o := o) (by rw [l]; exact hn)
  rw [l] at q
  unfold wnum put
  rw [q, ord_ord, vn_dg (by decide)]
theorem put_wnum {ds : List Int} {o n : Nat} {big : Bool} (h : Byt ds) (hn : o + n ≤ ds.length) : put ds o n big (wnum ds o n big) = ds := by
  have q := dg_vn (b := 256) (by decide) (ord big (seg ds o n)) (byt_ord (seg_byt h))
  rw [ord_len, seg_len hn] at q
  unfold put wnum
  rw [q, ord_ord, putSeg_seg hn]
/-- the bits of a changed slot -/
theorem nslot_bits (N : Int) (f w n : Nat) (v : Int) (h : f + w ≤ n) : dg 2 n (nslot N f w v) = (dg 2 n N).take f ++ dg 2 w v ++ (dg 2 n N).drop (f + w) := by
  have hf : (0 : Int) < 2 ^ f := Int.pow_pos (by decide)
  have hw : (0 : Int) < 2 ^ w := Int.pow_pos (by decide)
  obtain ⟨r, rfl⟩ := Nat.exists_eq_add_of_le h
  have e1 : nslot N f w v / 2 ^ f = N / 2 ^ f + (v % 2 ^ w - N / 2 ^ f % 2 ^ w) := by
    unfold nslot
    rw [Int.add_mul_ediv_right _ _ (by omega)]
  have e2 : nslot N f w v % 2 ^ f = N % 2 ^ f := by
    unfold nslot
    rw [Int.add_mul_emod_self_right]
  have e3 : N / 2 ^ f + (v % 2 ^ w - N / 2 ^ f % 2 ^ w) = v % 2 ^ w + 2 ^ w * (N / 2 ^ f / 2 ^ w) := by
    have q := Int.emod_add_mul_ediv (N / 2 ^ f) (2 ^ w)
    omega
  rw [dg_take (by decide) _ _ (by omega), dg_drop (by decide) _ _ h, Nat.add_sub_cancel_left, Nat.add_assoc, dg_app (by decide) f, dg_app (by decide) w, ← dg_mod (by decide) f (nslot N f w v), e2, dg_mod (by decide), e1, e3, ← dg_mod (by decide) w (_ + _), Int.add_mul_emod_self_left, Int.emod_emod_of_dvd _ (Int.dvd_refl _), dg_mod (by decide),
    Int.add_mul_ediv_left _ _ (by omega), Int.ediv_eq_zero_of_lt (Int.emod_nonneg _ (by omega)) (Int.emod_lt_of_pos _ hw), Int.zero_add, Int.ediv_ediv_of_nonneg (by omega), Int.pow_add, List.append_assoc]
theorem lo_hi {w : Nat} {s : Bool} (h : 0 < w) : lo w s ≤ hi w s ∧ hi w s - lo w s + 1 = 2 ^ w := by
  obtain ⟨k, rfl⟩ := Nat.exists_eq_add_of_le' h
  have hp : (0 : Int) < 2 ^ k := Int.pow_pos (by decide)
  unfold lo hi
  rw [Nat.add_sub_cancel, Int.pow_succ]
  cases s
  · simp only [Bool.false_eq_true, if_false]
    omega
  · simp only [if_true]
    omega
theorem p2_le {a b : Nat} (h : a ≤ b) : (2 : Int) ^ a ≤ 2 ^ b := by
  have := Nat.pow_le_pow_right (n := 2) (by decide) h
  exact_mod_cast this
theorem p2_pos (a : Nat) : (0 : Int) < 2 ^ a := Int.pow_pos (by decide)
/-! ### the promises of integers -/
def sp_power (K : PySem.W.Frag) (A : Ad) : Sp := fun vs H Q _ => ∃ n : Int, vs = [.int n] ∧ 0 ≤ n ∧ n ≤ 1000 ∧ Q (.int (2 ^ n.toNat)) H
def sp_bounds (K : PySem.W.Frag) (A : Ad) : Sp := fun vs H Q _ => ∃ (w : Int) (s : Bool), vs = [.int w, .bl s] ∧ 1 ≤ w ∧ w ≤ 63 ∧ ∀ p H', Same H H' → Im K H' (.ref p) (.tuple [.int (lo w.toNat s), .int (hi w.toNat s)]) → Q (.ref p) H'
def sp_word_number (K : PySem.W.Frag) (A : Ad) : Sp := fun vs H Q _ => ∃ (a : Addr) (ds : List Int) (o n : Int) (big : Bool), vs = [.ref a, .int o, .int n, .bl big] ∧ SqL K H a (ds.map V.int) ∧ 0 ≤ o ∧ 0 ≤ n ∧ n ≤ 1000 ∧ o + n ≤ ds.length ∧ Q (.int (wnum ds o.toNat n.toNat big)) H
def sp_put_word_number (K : PySem.W.Frag) (A : Ad) : Sp := fun vs H Q _ => ∃ (a : Addr) (ds : List Int) (o n : Int) (big : Bool) (z : Int), vs = [.ref a, .int o, .int n, .bl big, .int z] ∧ H a = some (.lst (ds.map V.int)) ∧ 0 ≤ o ∧ 0 ≤ n ∧ n ≤ 1000 ∧ o + n ≤ ds.length ∧
  ∀ H', KBs H H' [a] → H' a = some (.lst ((put ds o.toNat n.toNat big z).map V.int)) → Q .non H'
def sp_read_slot (K : PySem.W.Frag) (A : Ad) : Sp := fun vs H Q _ => ∃ (a : Addr) (ds : List Int) (o n : Int) (big : Bool) (f w : Int) (s : Bool), vs = [.ref a, .int o, .int n, .bl big, .int f, .int w, .bl s] ∧ SqL K H a (ds.map V.int) ∧ 0 ≤ o ∧ 0 ≤ n ∧ n ≤ 1000 ∧ o + n ≤ ds.length ∧ 0 ≤ f ∧ f ≤ 63 ∧ 1 ≤ w ∧ w ≤ 63 ∧
  Q (.int (rslot ds o.toNat n.toNat big f.toNat w.toNat s)) H
def sp_write_slot (K : PySem.W.Frag) (A : Ad) : Sp := fun vs H Q E => ∃ (a : Addr) (ds : List Int) (o n : Int) (big : Bool) (f w : Int) (s : Bool) (v : Int), vs = [.ref a, .int o, .int n, .bl big, .int f, .int w, .bl s, .int v] ∧ H a = some (.lst (ds.map V.int)) ∧ 0 ≤ o ∧ 0 ≤ n ∧ n ≤ 1000 ∧ o + n ≤ ds.length ∧ 0 ≤ f ∧ f ≤ 63 ∧ 1 ≤ w ∧ w ≤ 63 ∧
  (v < lo w.toNat s ∨ hi w.toNat s < v → ∀ H', Same H H' → E (.ref A.c_OutOfRange) none H') ∧
  (lo w.toNat s ≤ v → v ≤ hi w.toNat s → ∀ H', KBs H H' [a] → H' a = some (.lst ((wslot ds o.toNat n.toNat big f.toNat w.toNat v).map V.int)) → Q .non H')
def sp_read_word (K : PySem.W.Frag) (A : Ad) : Sp := fun vs H Q _ => ∃ (a : Addr) (ds : List Int) (o n : Int), vs = [.ref a, .int o, .int n] ∧ SqL K H a (ds.map V.int) ∧ 0 ≤ o ∧ 0 ≤ n ∧ n ≤ 1000 ∧ o + n ≤ ds.length ∧ Q (.int (wnum ds o.toNat n.toNat false)) H
def sp_write_word (K : PySem.W.Frag) (A : Ad) : Sp := fun vs H Q _ => ∃ (a : Addr) (ds : List Int) (o n : Int) (z : Int), vs = [.ref a, .int o, .int n, .int z] ∧ H a = some (.lst (ds.map V.int)) ∧ 0 ≤ o ∧ 0 ≤ n ∧ n ≤ 1000 ∧ o + n ≤ ds.length ∧
  ∀ H', KBs H H' [a] → H' a = some (.lst ((put ds o.toNat n.toNat false z).map V.int)) → Q .non H'
section
variable {K : PySem.W.Frag} {A : Ad} {H0 H : Hp} {S : List Addr} {L : List (Addr × Ent)} {I : List (V × PyData)} {Q : VK} {E : XK} {a : Addr} {ds : List Int} {o n f w z v : Int} {big s : Bool}
theorem h_power {n : Int} (h0 : 0 ≤ n) (h1 : n ≤ 1000) (k : Q (.int (2 ^ n.toNat)) H) : sp_power K A [.int n] H Q E := ⟨n, rfl, h0, h1, k⟩
theorem h_bounds (h : Led K H0 S H L I) (h0 : 1 ≤ w) (h1 : w ≤ 63) (k : ∀ p H', Led K H0 S H' L ((.ref p, .tuple [.int (lo w.toNat s), .int (hi w.toNat s)]) :: I) → Q (.ref p) H') : sp_bounds K A [.int w, .bl s] H Q E :=
  ⟨w, s, rfl, h0, h1, fun p H' s i => k p H' ((h.same s).imNew i)⟩
theorem h_wnum (m : Nat) (h : Led K H0 S H L I) (e : L[m]? = some (a, .raw (.lst (ds.map V.int)))) (h0 : 0 ≤ o) (h1 : 0 ≤ n) (h2 : n ≤ 1000) (h3 : o + n ≤ ds.length) (k : Q (.int (wnum ds o.toNat n.toNat big)) H) : sp_word_number K A [.ref a, .int o, .int n, .bl big] H Q E :=
  ⟨a, ds, o, n, big, rfl, h.sqL m e, h0, h1, h2, h3, k⟩
theorem h_rdword (m : Nat) (h : Led K H0 S H L I) (e : L[m]? = some (a, .raw (.lst (ds.map V.int)))) (h0 : 0 ≤ o) (h1 : 0 ≤ n) (h2 : n ≤ 1000) (h3 : o + n ≤ ds.length) (k : Q (.int (wnum ds o.toNat n.toNat false)) H) : sp_read_word K A [.ref a, .int o, .int n] H Q E :=
  ⟨a, ds, o, n, rfl, h.sqL m e, h0, h1, h2, h3, k⟩
theorem h_rslot (m : Nat) (h : Led K H0 S H L I) (e : L[m]? = some (a, .raw (.lst (ds.map V.int)))) (h0 : 0 ≤ o) (h1 : 0 ≤ n) (h2 : n ≤ 1000) (h3 : o + n ≤ ds.length) (h4 : 0 ≤ f) (h5 : f ≤ 63) (h6 : 1 ≤ w) (h7 : w ≤ 63) (k : Q (.int (rslot ds o.toNat n.toNat big f.toNat w.toNat s)) H) : sp_read_slot K A [.ref a, .int o, .int n, .bl big, .int f, .int w, .bl s] H Q E :=
  ⟨a, ds, o, n, big, f, w, s, rfl, h.sqL m e, h0, h1, h2, h3, h4, h5, h6, h7, k⟩
theorem h_put (m : Nat) (h : Led K H0 S H L I) (e : L[m]? = some (a, .raw (.lst (ds.map V.int)))) (h0 : 0 ≤ o) (h1 : 0 ≤ n) (h2 : n ≤ 1000) (h3 : o + n ≤ ds.length) (hs : H0 a = none ∨ a ∈ S) (k : ∀ H', Led K H0 S H' (L.set m (a, .raw (.lst ((put ds o.toNat n.toNat big z).map V.int)))) I → Q .non H') : sp_put_word_number K A [.ref a, .int o, .int n, .bl big, .int z] H Q E :=
  ⟨a, ds, o, n, big, z, rfl, h.raw m e, h0, h1, h2, h3, fun H' kb he => k H' (h.wr m e kb (h.raw m e) rfl he hs)⟩
theorem h_wrword (m : Nat) (h : Led K H0 S H L I) (e : L[m]? = some (a, .raw (.lst (ds.map V.int)))) (h0 : 0 ≤ o) (h1 : 0 ≤ n) (h2 : n ≤ 1000) (h3 : o + n ≤ ds.length) (hs : H0 a = none ∨ a ∈ S) (k : ∀ H', Led K H0 S H' (L.set m (a, .raw (.lst ((put ds o.toNat n.toNat false z).map V.int)))) I → Q .non H') : sp_write_word K A [.ref a, .int o, .int n, .int z] H Q E :=
  ⟨a, ds, o, n, z, rfl, h.raw m e, h0, h1, h2, h3, fun H' kb he => k H' (h.wr m e kb (h.raw m e) rfl he hs)⟩
theorem h_wslot (m : Nat) (h : Led K H0 S H L I) (e : L[m]? = some (a, .raw (.lst (ds.map V.int)))) (h0 : 0 ≤ o) (h1 : 0 ≤ n) (h2 : n ≤ 1000) (h3 : o + n ≤ ds.length) (h4 : 0 ≤ f) (h5 : f ≤ 63) (h6 : 1 ≤ w) (h7 : w ≤ 63) (hs : H0 a = none ∨ a ∈ S)
    (kx : v < lo w.toNat s ∨ hi w.toNat s < v → ∀ H', Led K H0 S H' L I → E (.ref A.c_OutOfRange) none H')
    (k : lo w.toNat s ≤ v → v ≤ hi w.toNat s → ∀ H', Led K H0 S H' (L.set m (a, .raw (.lst ((wslot ds o.toNat n.toNat big f.toNat w.toNat v).map V.int)))) I → Q .non H') : sp_write_slot K A [.ref a, .int o, .int n, .bl big, .int f, .int w, .bl s, .int v] H Q E :=
  ⟨a, ds, o, n, big, f, w, s, v, rfl, h.raw m e, h0, h1, h2, h3, h4, h5, h6, h7, fun c H' sm => kx c H' (h.same sm), fun c1 c2 H' kb he => k c1 c2 H' (h.wr m e kb (h.raw m e) rfl he hs)⟩
end

local macro_rules | `(tactic| walk_at "im") => `(tactic| (first | apply Im.int | apply Im.str | apply Im.bl | apply Im.non | assumption | (apply h_imm 0; (case h => assumption); (case e => with_unfolding_all rfl)) | (apply h_imm 1; (case h => assumption); (case e => with_unfolding_all rfl)) | (apply h_imm 2; (case h => assumption); (case e => with_unfolding_all rfl)) | (apply h_imm 3; (case h => assumption); (case e => with_unfolding_all rfl)) | (apply h_imm 4; (case h => assumption); (case e => with_unfolding_all rfl)) | (apply h_imm 5; (case h => assumption); (case e => with_unfolding_all rfl))))
local macro_rules | `(tactic| walk_at "ims") => `(tactic| repeat (first | apply Ims.nil | (apply Ims.cons; (focus (first | apply Im.int | apply Im.str | apply Im.bl | apply Im.non | assumption | (apply h_imm 0; (case h => assumption); (case e => with_unfolding_all rfl)) | (apply h_imm 1; (case h => assumption); (case e => with_unfolding_all rfl)) | (apply h_imm 2; (case h => assumption); (case e => with_unfolding_all rfl)) | (apply h_imm 3; (case h => assumption); (case e => with_unfolding_all rfl)) | (apply h_imm 4; (case h => assumption); (case e => with_unfolding_all rfl)) | (apply h_imm 5; (case h => assumption); (case e => with_unfolding_all rfl)))))))
local macro_rules | `(tactic| walk_at "sz") => `(tactic| (rw [sizeLine_eq]; ((try simp only [List.length_append, List.length_cons, List.length_nil, List.length_map, List.length_replicate, List.length_set, List.length_take, List.length_drop]) <;> omega)))
local macro_rules | `(tactic| walk_at "fr") => `(tactic| (first | assumption | (apply Or.inl; assumption) | (apply Or.inr; simp)))
local macro_rules | `(tactic| walk_at "ds") => `(tactic| dsimp only [a_lk0, a_lk1, a_lkS, a_V, a_vl, a_c, a_op, a_un, a_test, a_toB, a_tr, a_trB, a_trI, a_trN, a_and, a_or, a_not, a_andV, a_orV, a_notV, a_ifE, a_nil, a_cons, a_lst, a_tup, a_call, a_CB, a_BM, a_BM0, a_sl, a_part, a_partI, a_noPart, a_seq, a_next, a_brk, a_cont, a_asg, a_name, a_drop, a_ret, a_retN, a_if, a_aug, a_for, a_lc, a_jR1, a_jR2, a_jL, a_jT, a_rg1, a_rg2, a_gsub, a_yes, a_addI, a_addS, a_addR, a_iaddI, a_iaddS, a_sub, a_mulI, a_mulR, a_fdiv, a_mod, a_pow, a_shl, a_shr, a_lt, a_le, a_gt, a_ge, a_neg, a_EqI, a_EqS, a_EqB, a_EqNN, a_EqIN, a_EqNI, a_EqSN, a_EqNS, a_EqRR, a_EqRN, a_EqNR, a_NeI, a_NeS, a_NeB, a_NeNN, a_NeIN, a_NeNI, a_NeSN, a_NeNS, a_NeRR, a_NeRN, a_NeNR, a_isNN, a_isNI, a_isNS, a_isNB, a_isNR, a_notNN, a_notNI, a_notNS, a_notNB, a_notNR, a_intI, a_intB, a_abs, a_gnil, a_gcons, a_callS, a_raise0, a_tryAs, a_tryOnly, a_rev, a_jR3, wipe, List.set, List.nil_append, List.cons_append])
local macro_rules | `(tactic| walk_at "gs") => `(tactic| repeat (first | dsimp only [a_lk0, a_lk1, a_lkS, a_V, a_vl, a_c, a_op, a_un, a_test, a_toB, a_tr, a_trB, a_trI, a_trN, a_and, a_or, a_not, a_andV, a_orV, a_notV, a_ifE, a_nil, a_cons, a_lst, a_tup, a_call, a_CB, a_BM, a_BM0, a_sl, a_part, a_partI, a_noPart, a_seq, a_next, a_brk, a_cont, a_asg, a_name, a_drop, a_ret, a_retN, a_if, a_aug, a_for, a_lc, a_jR1, a_jR2, a_jL, a_jT, a_rg1, a_rg2, a_gsub, a_yes, a_addI, a_addS, a_addR, a_iaddI, a_iaddS, a_sub, a_mulI, a_mulR, a_fdiv, a_mod, a_pow, a_shl, a_shr, a_lt, a_le, a_gt, a_ge, a_neg, a_EqI, a_EqS, a_EqB, a_EqNN, a_EqIN, a_EqNI, a_EqSN, a_EqNS, a_EqRR, a_EqRN, a_EqNR, a_NeI, a_NeS, a_NeB, a_NeNN, a_NeIN, a_NeNI, a_NeSN, a_NeNS, a_NeRR, a_NeRN, a_NeNR, a_isNN, a_isNI, a_isNS, a_isNB, a_isNR, a_notNN, a_notNI, a_notNS, a_notNB, a_notNR, a_intI, a_intB, a_abs, a_gnil, a_gcons, a_callS, a_raise0, a_tryAs, a_tryOnly, a_rev, a_jR3, wipe, List.set, List.nil_append, List.cons_append] | with_reducible (first
  | (apply h_draw 0; (case h => assumption); (case e => with_unfolding_all rfl); (case e2 => with_unfolding_all rfl); (case h0 => (first | decide | omega)); (case h1 => (first | decide | omega)); (case h2 => (first | decide | omega)); (case hs => (first | assumption | (apply Or.inl; assumption) | (apply Or.inr; simp))))
  | (apply h_draw 1; (case h => assumption); (case e => with_unfolding_all rfl); (case e2 => with_unfolding_all rfl); (case h0 => (first | decide | omega)); (case h1 => (first | decide | omega)); (case h2 => (first | decide | omega)); (case hs => (first | assumption | (apply Or.inl; assumption) | (apply Or.inr; simp))))
  | (apply h_draw 2; (case h => assumption); (case e => with_unfolding_all rfl); (case e2 => with_unfolding_all rfl); (case h0 => (first | decide | omega)); (case h1 => (first | decide | omega)); (case h2 => (first | decide | omega)); (case hs => (first | assumption | (apply Or.inl; assumption) | (apply Or.inr; simp))))
  | (apply h_draw 3; (case h => assumption); (case e => with_unfolding_all rfl); (case e2 => with_unfolding_all rfl); (case h0 => (first | decide | omega)); (case h1 => (first | decide | omega)); (case h2 => (first | decide | omega)); (case hs => (first | assumption | (apply Or.inl; assumption) | (apply Or.inr; simp))))
  | (apply h_ixL 0; (case h => assumption); (case e => with_unfolding_all rfl); (case hx => with_unfolding_all rfl))
  | (apply h_ixL 1; (case h => assumption); (case e => with_unfolding_all rfl); (case hx => with_unfolding_all rfl))
  | (apply h_ixL 2; (case h => assumption); (case e => with_unfolding_all rfl); (case hx => with_unfolding_all rfl))
  | (apply h_ixL 3; (case h => assumption); (case e => with_unfolding_all rfl); (case hx => with_unfolding_all rfl))
  | (apply h_ixL 4; (case h => assumption); (case e => with_unfolding_all rfl); (case hx => with_unfolding_all rfl))
  | (apply h_ixTv; (case hd => (first | apply Im.int | apply Im.str | apply Im.bl | apply Im.non | assumption | (apply h_imm 0; (case h => assumption); (case e => with_unfolding_all rfl)) | (apply h_imm 1; (case h => assumption); (case e => with_unfolding_all rfl)) | (apply h_imm 2; (case h => assumption); (case e => with_unfolding_all rfl)) | (apply h_imm 3; (case h => assumption); (case e => with_unfolding_all rfl)) | (apply h_imm 4; (case h => assumption); (case e => with_unfolding_all rfl)) | (apply h_imm 5; (case h => assumption); (case e => with_unfolding_all rfl)))); (case h0 => (first | decide | omega)); (case hx => with_unfolding_all rfl); (case hv => with_unfolding_all rfl))
  | (apply h_slPre; (case h => assumption); (case hd => (first | apply Im.int | apply Im.str | apply Im.bl | apply Im.non | assumption | (apply h_imm 0; (case h => assumption); (case e => with_unfolding_all rfl)) | (apply h_imm 1; (case h => assumption); (case e => with_unfolding_all rfl)) | (apply h_imm 2; (case h => assumption); (case e => with_unfolding_all rfl)) | (apply h_imm 3; (case h => assumption); (case e => with_unfolding_all rfl)) | (apply h_imm 4; (case h => assumption); (case e => with_unfolding_all rfl)) | (apply h_imm 5; (case h => assumption); (case e => with_unfolding_all rfl)))); (case h0 => (first | decide | omega)))
  | (apply h_gtupV; (case h => (first | apply Im.int | apply Im.str | apply Im.bl | apply Im.non | assumption | (apply h_imm 0; (case h => assumption); (case e => with_unfolding_all rfl)) | (apply h_imm 1; (case h => assumption); (case e => with_unfolding_all rfl)) | (apply h_imm 2; (case h => assumption); (case e => with_unfolding_all rfl)) | (apply h_imm 3; (case h => assumption); (case e => with_unfolding_all rfl)) | (apply h_imm 4; (case h => assumption); (case e => with_unfolding_all rfl)) | (apply h_imm 5; (case h => assumption); (case e => with_unfolding_all rfl)))); (case hn => with_unfolding_all rfl); (case hv => with_unfolding_all rfl))
  | (apply h_isiB)
  | (apply h_eqr)
  | (apply iteT)
  | (apply h_nT)
  | (apply h_nF)
  | (apply iteF)
  | (apply h_brT)
  | (apply h_brF)
  | (apply h_brET)
  | (apply h_brEF)
  | (apply h_brNT)
  | (apply h_brNF)
  | (apply h_append 0; (case h => assumption); (case e => with_unfolding_all rfl); (case hs => (first | assumption | (apply Or.inl; assumption) | (apply Or.inr; simp))); (case z => (rw [sizeLine_eq]; ((try simp only [List.length_append, List.length_cons, List.length_nil, List.length_map, List.length_replicate, List.length_set, List.length_take, List.length_drop]) <;> omega))))
  | (apply h_append 1; (case h => assumption); (case e => with_unfolding_all rfl); (case hs => (first | assumption | (apply Or.inl; assumption) | (apply Or.inr; simp))); (case z => (rw [sizeLine_eq]; ((try simp only [List.length_append, List.length_cons, List.length_nil, List.length_map, List.length_replicate, List.length_set, List.length_take, List.length_drop]) <;> omega))))
  | (apply h_append 2; (case h => assumption); (case e => with_unfolding_all rfl); (case hs => (first | assumption | (apply Or.inl; assumption) | (apply Or.inr; simp))); (case z => (rw [sizeLine_eq]; ((try simp only [List.length_append, List.length_cons, List.length_nil, List.length_map, List.length_replicate, List.length_set, List.length_take, List.length_drop]) <;> omega))))
  | (apply h_append 3; (case h => assumption); (case e => with_unfolding_all rfl); (case hs => (first | assumption | (apply Or.inl; assumption) | (apply Or.inr; simp))); (case z => (rw [sizeLine_eq]; ((try simp only [List.length_append, List.length_cons, List.length_nil, List.length_map, List.length_replicate, List.length_set, List.length_take, List.length_drop]) <;> omega))))
  | (apply h_append 4; (case h => assumption); (case e => with_unfolding_all rfl); (case hs => (first | assumption | (apply Or.inl; assumption) | (apply Or.inr; simp))); (case z => (rw [sizeLine_eq]; ((try simp only [List.length_append, List.length_cons, List.length_nil, List.length_map, List.length_replicate, List.length_set, List.length_take, List.length_drop]) <;> omega))))
  | (apply h_appendD 0; (case h => assumption); (case e => with_unfolding_all rfl); (case hd => (first | apply Im.int | apply Im.str | apply Im.bl | apply Im.non | assumption | (apply h_imm 0; (case h => assumption); (case e => with_unfolding_all rfl)) | (apply h_imm 1; (case h => assumption); (case e => with_unfolding_all rfl)) | (apply h_imm 2; (case h => assumption); (case e => with_unfolding_all rfl)) | (apply h_imm 3; (case h => assumption); (case e => with_unfolding_all rfl)) | (apply h_imm 4; (case h => assumption); (case e => with_unfolding_all rfl)) | (apply h_imm 5; (case h => assumption); (case e => with_unfolding_all rfl)))); (case hs => (first | assumption | (apply Or.inl; assumption) | (apply Or.inr; simp))); (case z => (rw [sizeLine_eq]; ((try simp only [List.length_append, List.length_cons, List.length_nil, List.length_map, List.length_replicate, List.length_set, List.length_take, List.length_drop]) <;> omega))))
  | (apply h_appendD 1; (case h => assumption); (case e => with_unfolding_all rfl); (case hd => (first | apply Im.int | apply Im.str | apply Im.bl | apply Im.non | assumption | (apply h_imm 0; (case h => assumption); (case e => with_unfolding_all rfl)) | (apply h_imm 1; (case h => assumption); (case e => with_unfolding_all rfl)) | (apply h_imm 2; (case h => assumption); (case e => with_unfolding_all rfl)) | (apply h_imm 3; (case h => assumption); (case e => with_unfolding_all rfl)) | (apply h_imm 4; (case h => assumption); (case e => with_unfolding_all rfl)) | (apply h_imm 5; (case h => assumption); (case e => with_unfolding_all rfl)))); (case hs => (first | assumption | (apply Or.inl; assumption) | (apply Or.inr; simp))); (case z => (rw [sizeLine_eq]; ((try simp only [List.length_append, List.length_cons, List.length_nil, List.length_map, List.length_replicate, List.length_set, List.length_take, List.length_drop]) <;> omega))))
  | (apply h_appendD 2; (case h => assumption); (case e => with_unfolding_all rfl); (case hd => (first | apply Im.int | apply Im.str | apply Im.bl | apply Im.non | assumption | (apply h_imm 0; (case h => assumption); (case e => with_unfolding_all rfl)) | (apply h_imm 1; (case h => assumption); (case e => with_unfolding_all rfl)) | (apply h_imm 2; (case h => assumption); (case e => with_unfolding_all rfl)) | (apply h_imm 3; (case h => assumption); (case e => with_unfolding_all rfl)) | (apply h_imm 4; (case h => assumption); (case e => with_unfolding_all rfl)) | (apply h_imm 5; (case h => assumption); (case e => with_unfolding_all rfl)))); (case hs => (first | assumption | (apply Or.inl; assumption) | (apply Or.inr; simp))); (case z => (rw [sizeLine_eq]; ((try simp only [List.length_append, List.length_cons, List.length_nil, List.length_map, List.length_replicate, List.length_set, List.length_take, List.length_drop]) <;> omega))))
  | (apply h_appendD 3; (case h => assumption); (case e => with_unfolding_all rfl); (case hd => (first | apply Im.int | apply Im.str | apply Im.bl | apply Im.non | assumption | (apply h_imm 0; (case h => assumption); (case e => with_unfolding_all rfl)) | (apply h_imm 1; (case h => assumption); (case e => with_unfolding_all rfl)) | (apply h_imm 2; (case h => assumption); (case e => with_unfolding_all rfl)) | (apply h_imm 3; (case h => assumption); (case e => with_unfolding_all rfl)) | (apply h_imm 4; (case h => assumption); (case e => with_unfolding_all rfl)) | (apply h_imm 5; (case h => assumption); (case e => with_unfolding_all rfl)))); (case hs => (first | assumption | (apply Or.inl; assumption) | (apply Or.inr; simp))); (case z => (rw [sizeLine_eq]; ((try simp only [List.length_append, List.length_cons, List.length_nil, List.length_map, List.length_replicate, List.length_set, List.length_take, List.length_drop]) <;> omega))))
  | (apply h_appendD 4; (case h => assumption); (case e => with_unfolding_all rfl); (case hd => (first | apply Im.int | apply Im.str | apply Im.bl | apply Im.non | assumption | (apply h_imm 0; (case h => assumption); (case e => with_unfolding_all rfl)) | (apply h_imm 1; (case h => assumption); (case e => with_unfolding_all rfl)) | (apply h_imm 2; (case h => assumption); (case e => with_unfolding_all rfl)) | (apply h_imm 3; (case h => assumption); (case e => with_unfolding_all rfl)) | (apply h_imm 4; (case h => assumption); (case e => with_unfolding_all rfl)) | (apply h_imm 5; (case h => assumption); (case e => with_unfolding_all rfl)))); (case hs => (first | assumption | (apply Or.inl; assumption) | (apply Or.inr; simp))); (case z => (rw [sizeLine_eq]; ((try simp only [List.length_append, List.length_cons, List.length_nil, List.length_map, List.length_replicate, List.length_set, List.length_take, List.length_drop]) <;> omega))))
  | (apply h_tyL 0; (case h => assumption); (case e => with_unfolding_all rfl))
  | (apply h_tyL 1; (case h => assumption); (case e => with_unfolding_all rfl))
  | (apply h_tyL 2; (case h => assumption); (case e => with_unfolding_all rfl))
  | (apply h_tyL 3; (case h => assumption); (case e => with_unfolding_all rfl))
  | (apply h_tyL 4; (case h => assumption); (case e => with_unfolding_all rfl))
  | (apply h_tyD 0; (case h => assumption); (case e => with_unfolding_all rfl))
  | (apply h_tyD 1; (case h => assumption); (case e => with_unfolding_all rfl))
  | (apply h_tyD 2; (case h => assumption); (case e => with_unfolding_all rfl))
  | (apply h_tyD 3; (case h => assumption); (case e => with_unfolding_all rfl))
  | (apply h_tyD 4; (case h => assumption); (case e => with_unfolding_all rfl))
  | (apply h_tyS)
  | (apply h_lenL 0; (case h => assumption); (case e => with_unfolding_all rfl))
  | (apply h_lenL 1; (case h => assumption); (case e => with_unfolding_all rfl))
  | (apply h_lenL 2; (case h => assumption); (case e => with_unfolding_all rfl))
  | (apply h_lenL 3; (case h => assumption); (case e => with_unfolding_all rfl))
  | (apply h_lenL 4; (case h => assumption); (case e => with_unfolding_all rfl))
  | (apply h_lenD 0; (case h => assumption); (case e => with_unfolding_all rfl))
  | (apply h_lenD 1; (case h => assumption); (case e => with_unfolding_all rfl))
  | (apply h_lenD 2; (case h => assumption); (case e => with_unfolding_all rfl))
  | (apply h_lenD 3; (case h => assumption); (case e => with_unfolding_all rfl))
  | (apply h_lenD 4; (case h => assumption); (case e => with_unfolding_all rfl))
  | (apply h_setL 0; (case h => assumption); (case e => with_unfolding_all rfl); (case hs => (first | assumption | (apply Or.inl; assumption) | (apply Or.inr; simp))); (case hi => with_unfolding_all rfl))
  | (apply h_setL 1; (case h => assumption); (case e => with_unfolding_all rfl); (case hs => (first | assumption | (apply Or.inl; assumption) | (apply Or.inr; simp))); (case hi => with_unfolding_all rfl))
  | (apply h_setL 2; (case h => assumption); (case e => with_unfolding_all rfl); (case hs => (first | assumption | (apply Or.inl; assumption) | (apply Or.inr; simp))); (case hi => with_unfolding_all rfl))
  | (apply h_setL 3; (case h => assumption); (case e => with_unfolding_all rfl); (case hs => (first | assumption | (apply Or.inl; assumption) | (apply Or.inr; simp))); (case hi => with_unfolding_all rfl))
  | (apply h_setL 4; (case h => assumption); (case e => with_unfolding_all rfl); (case hs => (first | assumption | (apply Or.inl; assumption) | (apply Or.inr; simp))); (case hi => with_unfolding_all rfl))
  | (apply h_isLn 0; (case h => assumption); (case e => with_unfolding_all rfl))
  | (apply h_isLn 1; (case h => assumption); (case e => with_unfolding_all rfl))
  | (apply h_isLn 2; (case h => assumption); (case e => with_unfolding_all rfl))
  | (apply h_isLn 3; (case h => assumption); (case e => with_unfolding_all rfl))
  | (apply h_isLn 4; (case h => assumption); (case e => with_unfolding_all rfl))
  | (apply h_isLd 0; (case h => assumption); (case e => with_unfolding_all rfl))
  | (apply h_isLd 1; (case h => assumption); (case e => with_unfolding_all rfl))
  | (apply h_isLd 2; (case h => assumption); (case e => with_unfolding_all rfl))
  | (apply h_isLd 3; (case h => assumption); (case e => with_unfolding_all rfl))
  | (apply h_isLd 4; (case h => assumption); (case e => with_unfolding_all rfl))
  | (apply h_isT; (case h => (first | apply Im.int | apply Im.str | apply Im.bl | apply Im.non | assumption | (apply h_imm 0; (case h => assumption); (case e => with_unfolding_all rfl)) | (apply h_imm 1; (case h => assumption); (case e => with_unfolding_all rfl)) | (apply h_imm 2; (case h => assumption); (case e => with_unfolding_all rfl)) | (apply h_imm 3; (case h => assumption); (case e => with_unfolding_all rfl)) | (apply h_imm 4; (case h => assumption); (case e => with_unfolding_all rfl)) | (apply h_imm 5; (case h => assumption); (case e => with_unfolding_all rfl)))))
  | (apply h_tupOf 0; (case h => assumption); (case e => with_unfolding_all rfl))
  | (apply h_tupOf 1; (case h => assumption); (case e => with_unfolding_all rfl))
  | (apply h_tupOf 2; (case h => assumption); (case e => with_unfolding_all rfl))
  | (apply h_tupOf 3; (case h => assumption); (case e => with_unfolding_all rfl))
  | (apply h_tupOf 4; (case h => assumption); (case e => with_unfolding_all rfl))
  | (apply h_listOf 0; (case h => assumption); (case e => with_unfolding_all rfl))
  | (apply h_listOf 1; (case h => assumption); (case e => with_unfolding_all rfl))
  | (apply h_listOf 2; (case h => assumption); (case e => with_unfolding_all rfl))
  | (apply h_listOf 3; (case h => assumption); (case e => with_unfolding_all rfl))
  | (apply h_listOf 4; (case h => assumption); (case e => with_unfolding_all rfl))
  | (apply h_lst; (case h => assumption); (case z => (rw [sizeLine_eq]; ((try simp only [List.length_append, List.length_cons, List.length_nil, List.length_map, List.length_replicate, List.length_set, List.length_take, List.length_drop]) <;> omega))))
  | (apply h_tup; (case h => assumption); (case z => (rw [sizeLine_eq]; ((try simp only [List.length_append, List.length_cons, List.length_nil, List.length_map, List.length_replicate, List.length_set, List.length_take, List.length_drop]) <;> omega))); (case hd => repeat (first | apply Ims.nil | (apply Ims.cons; (focus (first | apply Im.int | apply Im.str | apply Im.bl | apply Im.non | assumption | (apply h_imm 0; (case h => assumption); (case e => with_unfolding_all rfl)) | (apply h_imm 1; (case h => assumption); (case e => with_unfolding_all rfl)) | (apply h_imm 2; (case h => assumption); (case e => with_unfolding_all rfl)) | (apply h_imm 3; (case h => assumption); (case e => with_unfolding_all rfl)) | (apply h_imm 4; (case h => assumption); (case e => with_unfolding_all rfl)) | (apply h_imm 5; (case h => assumption); (case e => with_unfolding_all rfl))))))))
  | (apply And.intro; (case left => (first | decide | omega)))
  | (apply h_mr; (case h1 => (first | decide | omega)); (case h2 => (first | decide | omega)))
  | (apply h_ml; (case h1 => (first | decide | omega)); (case h2 => (first | decide | omega)))
  | (apply h_dv; (case h1 => (first | decide | omega)); (case h2 => (first | decide | omega)))
  | (apply h_pw; (case h1 => (first | decide | omega)); (case h2 => (first | decide | omega)); (case h3 => decide))
  | (apply And.intro; (case left => (rw [sizeLine_eq]; ((try simp only [List.length_append, List.length_cons, List.length_nil, List.length_map, List.length_replicate, List.length_set, List.length_take, List.length_drop]) <;> omega))))
  | (apply h_wnum 0; (case h => assumption); (case e => with_unfolding_all rfl); (case h0 => (first | decide | omega)); (case h1 => (first | decide | omega)); (case h2 => (first | decide | omega)); (case h3 => (first | decide | omega)))
  | (apply h_wnum 1; (case h => assumption); (case e => with_unfolding_all rfl); (case h0 => (first | decide | omega)); (case h1 => (first | decide | omega)); (case h2 => (first | decide | omega)); (case h3 => (first | decide | omega)))
  | (apply h_wnum 2; (case h => assumption); (case e => with_unfolding_all rfl); (case h0 => (first | decide | omega)); (case h1 => (first | decide | omega)); (case h2 => (first | decide | omega)); (case h3 => (first | decide | omega)))
  | (apply h_rdword 0; (case h => assumption); (case e => with_unfolding_all rfl); (case h0 => (first | decide | omega)); (case h1 => (first | decide | omega)); (case h2 => (first | decide | omega)); (case h3 => (first | decide | omega)))
  | (apply h_rdword 1; (case h => assumption); (case e => with_unfolding_all rfl); (case h0 => (first | decide | omega)); (case h1 => (first | decide | omega)); (case h2 => (first | decide | omega)); (case h3 => (first | decide | omega)))
  | (apply h_rdword 2; (case h => assumption); (case e => with_unfolding_all rfl); (case h0 => (first | decide | omega)); (case h1 => (first | decide | omega)); (case h2 => (first | decide | omega)); (case h3 => (first | decide | omega)))
  | (apply h_rslot 0; (case h => assumption); (case e => with_unfolding_all rfl); (case h0 => (first | decide | omega)); (case h1 => (first | decide | omega)); (case h2 => (first | decide | omega)); (case h3 => (first | decide | omega)); (case h4 => (first | decide | omega)); (case h5 => (first | decide | omega)); (case h6 => (first | decide | omega)); (case h7 => (first | decide | omega)))
  | (apply h_rslot 1; (case h => assumption); (case e => with_unfolding_all rfl); (case h0 => (first | decide | omega)); (case h1 => (first | decide | omega)); (case h2 => (first | decide | omega)); (case h3 => (first | decide | omega)); (case h4 => (first | decide | omega)); (case h5 => (first | decide | omega)); (case h6 => (first | decide | omega)); (case h7 => (first | decide | omega)))
  | (apply h_rslot 2; (case h => assumption); (case e => with_unfolding_all rfl); (case h0 => (first | decide | omega)); (case h1 => (first | decide | omega)); (case h2 => (first | decide | omega)); (case h3 => (first | decide | omega)); (case h4 => (first | decide | omega)); (case h5 => (first | decide | omega)); (case h6 => (first | decide | omega)); (case h7 => (first | decide | omega)))
  | (apply h_put 0; (case h => assumption); (case e => with_unfolding_all rfl); (case h0 => (first | decide | omega)); (case h1 => (first | decide | omega)); (case h2 => (first | decide | omega)); (case h3 => (first | decide | omega)); (case hs => (first | assumption | (apply Or.inl; assumption) | (apply Or.inr; simp))))
  | (apply h_put 1; (case h => assumption); (case e => with_unfolding_all rfl); (case h0 => (first | decide | omega)); (case h1 => (first | decide | omega)); (case h2 => (first | decide | omega)); (case h3 => (first | decide | omega)); (case hs => (first | assumption | (apply Or.inl; assumption) | (apply Or.inr; simp))))
  | (apply h_put 2; (case h => assumption); (case e => with_unfolding_all rfl); (case h0 => (first | decide | omega)); (case h1 => (first | decide | omega)); (case h2 => (first | decide | omega)); (case h3 => (first | decide | omega)); (case hs => (first | assumption | (apply Or.inl; assumption) | (apply Or.inr; simp))))
  | (apply h_wrword 0; (case h => assumption); (case e => with_unfolding_all rfl); (case h0 => (first | decide | omega)); (case h1 => (first | decide | omega)); (case h2 => (first | decide | omega)); (case h3 => (first | decide | omega)); (case hs => (first | assumption | (apply Or.inl; assumption) | (apply Or.inr; simp))))
  | (apply h_wrword 1; (case h => assumption); (case e => with_unfolding_all rfl); (case h0 => (first | decide | omega)); (case h1 => (first | decide | omega)); (case h2 => (first | decide | omega)); (case h3 => (first | decide | omega)); (case hs => (first | assumption | (apply Or.inl; assumption) | (apply Or.inr; simp))))
  | (apply h_wrword 2; (case h => assumption); (case e => with_unfolding_all rfl); (case h0 => (first | decide | omega)); (case h1 => (first | decide | omega)); (case h2 => (first | decide | omega)); (case h3 => (first | decide | omega)); (case hs => (first | assumption | (apply Or.inl; assumption) | (apply Or.inr; simp))))
  | (apply h_power; (case h0 => (first | decide | omega)); (case h1 => (first | decide | omega)))
  | (apply h_bounds; (case h => assumption); (case h0 => (first | decide | omega)); (case h1 => (first | decide | omega)))) | with_reducible intro))

theorem wn_next {ds : List Int} {o n i : Nat} {big : Bool} (h : o + n ≤ ds.length) (hi : i < n) : vn 256 ((ord big (seg ds o n)).drop (n - (i + 1))) = vn 256 ((ord big (seg ds o n)).drop (n - i)) * 256 + ds.getD (o + if big = true then i else n - 1 - i) 0 := by
  have hl : (ord big (seg ds o n)).length = n := by rw [ord_len, seg_len h]
  have hj : n - (i + 1) < (ord big (seg ds o n)).length := by omega
  rw [List.drop_eq_getElem_cons hj, vn, show n - (i + 1) + 1 = n - i by omega]
  have e : (ord big (seg ds o n))[n - (i + 1)] = (ord big (seg ds o n)).getD (n - (i + 1)) 0 := by rw [List.getD_eq_getElem?_getD, List.getElem?_eq_getElem hj]; rfl
  rw [e, ord_get (by rw [seg_len h]; omega), seg_len h]
  cases big
  · simp only [Bool.false_eq_true, if_false]
    rw [seg_get (by omega), show n - (i + 1) = n - 1 - i by omega]
    omega
  · simp only [if_true]
    rw [show n - 1 - (n - (i + 1)) = i by omega, seg_get hi]
    omega
theorem pw_next {ds : List Int} {o n i : Nat} {big : Bool} {z : Int} (h : o + n ≤ ds.length) (hi : i < n) : (putSeg ds o (ord big (dg 256 i z ++ (ord big (seg ds o n)).drop i))).set (o + if big = true then n - 1 - i else i) (z / 256 ^ i % 256) = putSeg ds o (ord big (dg 256 (i + 1) z ++ (ord big (seg ds o n)).drop (i + 1))) := by
  have hl : (dg 256 i z ++ (ord big (seg ds o n)).drop i).length = n := by rw [List.length_append, dg_len, List.length_drop, ord_len, seg_len h]; omega
  rw [putSeg_set (by rw [ord_len, hl]; exact h) (by rw [ord_len, hl]; split <;> omega)]
  have e := ord_set (big := big) (l := dg 256 i z ++ (ord big (seg ds o n)).drop i) (i := i) (z := z / 256 ^ i % 256) (by omega)
  rw [hl] at e
  rw [e, List.set_append_right i _ (by rw [dg_len]; exact Nat.le_refl _), dg_len, Nat.sub_self, dg_snoc (by decide), List.append_assoc]
  have hj : i < (ord big (seg ds o n)).length := by rw [ord_len, seg_len h]; exact hi
  rw [List.drop_eq_getElem_cons hj, List.set_cons_zero]
  rfl
def t_power (K : PySem.W.Frag) (A : Ad) : TS :=
  (tSeq (tAsg (tC (.int 1)) (gName 1))
  (tSeq (tFor (jR1 (tCons (mV 0) tNil)) (gName 2)
    (tAsg (tOp mMul (mV 1) (tC (.int 2))) (gName 1)))
  (tRet (mV 1))))
theorem rd_power {K : PySem.W.Frag} {A : Ad} {vs : List V} {H : Hp} {Q : VK} {E : XK} (h : sp_power K A vs H Q E) : t_power K A { nx := fun _ H' => Q .non H', rt := Q } (start ["exponent", "number", "_"] vs) H := by
  obtain ⟨n, rfl, h0, h1, k⟩ := h
  show t_power K A _ [some (.int n), none, none] H
  unfold t_power
  walk_at "gs"
  refine lpR (fun i σ H1 => H1 = H ∧ ∃ y : Option V, σ = [some (.int n), some (.int (2 ^ i)), y]) ⟨rfl, none, rfl⟩ ?_ ?_
  · rintro i σ H1 hi ⟨rfl, y, rfl⟩
    walk_at "gs"
    exact ⟨_, by rw [Int.pow_succ]⟩
  · rintro σ H1 ⟨rfl, y, rfl⟩
    walk_at "gs"
    exact k
def t_bounds (K : PySem.W.Frag) (A : Ad) : TS :=
  (tSeq (mIf (mTr K (mV 1))
    (tRet (tTup (tCons (tOp mSub (tC (.int 0)) (tCall (sp_power K A) [] E0 (tCons (tOp mSub (mV 0) (tC (.int 1))) tNil))) (tCons (tOp mSub (tCall (sp_power K A) [] E0 (tCons (tOp mSub (mV 0) (tC (.int 1))) tNil)) (tC (.int 1))) tNil))))
    tNext)
  (tRet (tTup (tCons (tC (.int 0)) (tCons (tOp mSub (tCall (sp_power K A) [] E0 (tCons (mV 0) tNil)) (tC (.int 1))) tNil)))))
theorem rd_bounds {K : PySem.W.Frag} {A : Ad} {vs : List V} {H : Hp} {Q : VK} {E : XK} (h : sp_bounds K A vs H Q E) : t_bounds K A { nx := fun _ H' => Q .non H', rt := Q } (start ["width", "signed"] vs) H := by
  obtain ⟨w, s, rfl, h0, h1, k⟩ := h
  show t_bounds K A _ [some (.int w), some (.bl s)] H
  unfold t_bounds
  have hL : Led K H [] H [] [] := Led.start
  have e : (w - 1).toNat = w.toNat - 1 := by omega
  cases s
  · walk_at "gs"
    rename_i p H1 h2
    exact k p H1 (KBs.same h2.kp) (h2.im 0 _ _ rfl)
  · walk_at "gs"
    rename_i p H1 h2
    rw [e] at h2
    exact k p H1 (KBs.same h2.kp) (h2.im 0 _ _ rfl)
def t_word_number (K : PySem.W.Frag) (A : Ad) : TS :=
  (tSeq (tAsg (tC (.int 0)) (gName 4))
  (tSeq (tFor (jR1 (tCons (mV 2) tNil)) (gName 5)
    (tSeq (tAsg (tOp (rIx K) (mV 0) (tOp (mAdd K) (mV 1) (mIfE (mTr K (mV 3)) (mV 5) (tOp mSub (tOp mSub (mV 2) (tC (.int 1))) (mV 5))))) (gName 6))
  (tAsg (tOp (mAdd K) (tOp mMul (mV 4) (tC (.int 256))) (mV 6)) (gName 4))))
  (tRet (mV 4))))
theorem rd_word_number {K : PySem.W.Frag} {A : Ad} {vs : List V} {H : Hp} {Q : VK} {E : XK} (h : sp_word_number K A vs H Q E) : t_word_number K A { nx := fun _ H' => Q .non H', rt := Q } (start ["data", "offset", "size", "big", "number", "at", "byte"] vs) H := by
  obtain ⟨a, ds, o, n, big, rfl, hS, h0, h1, h2, h3, k⟩ := h
  show t_word_number K A _ [some (.ref a), some (.int o), some (.int n), some (.bl big), none, none, none] H
  unfold t_word_number
  have hz : o.toNat + n.toNat ≤ ds.length := by omega
  walk_at "gs"
  refine lpR (fun i σ H1 => H1 = H ∧ ∃ y5 y6 : Option V, σ = [some (.ref a), some (.int o), some (.int n), some (.bl big), some (.int (vn 256 ((ord big (seg ds o.toNat n.toNat)).drop (n.toNat - i)))), y5, y6])
    ⟨rfl, none, none, by rw [Nat.sub_zero, List.drop_eq_nil_of_le (by rw [ord_len, seg_len hz]; exact Nat.le_refl _)]; rfl⟩ ?_ ?_
  · rintro i σ H1 hi ⟨rfl, y5, y6, rfl⟩
    have nx := wn_next (big := big) hz hi
    walk_at "gs"
    cases big
    · walk_at "gs"
      refine h_ixQ hS (at_ints (by omega) (by omega)) ?_
      walk_at "gs"
      simp only [Bool.false_eq_true, if_false] at nx
      exact ⟨_, _, by rw [nx, show (o + (n - 1 - (0 + (i : Int)))).toNat = o.toNat + (n.toNat - 1 - i) by omega]⟩
    · walk_at "gs"
      refine h_ixQ hS (at_ints (by omega) (by omega)) ?_
      walk_at "gs"
      simp only [if_true] at nx
      exact ⟨_, _, by rw [nx, show (o + (0 + (i : Int))).toNat = o.toNat + i by omega]⟩
  · rintro σ H1 ⟨rfl, y5, y6, rfl⟩
    rw [Nat.sub_self, List.drop_zero]
    walk_at "gs"
    exact k
def t_put_word_number (K : PySem.W.Frag) (A : Ad) : TS :=
  (tFor (jR1 (tCons (mV 2) tNil)) (gName 5)
    (tSeq (tAsg (tOp mMod (mV 4) (tC (.int 256))) (gSub (mV 0) (tOp (mAdd K) (mV 1) (mIfE (mTr K (mV 3)) (tOp mSub (tOp mSub (mV 2) (tC (.int 1))) (mV 5)) (mV 5))) rSetL))
  (tAsg (tOp mFdiv (mV 4) (tC (.int 256))) (gName 4))))
theorem rd_put_word_number {K : PySem.W.Frag} {A : Ad} {vs : List V} {H : Hp} {Q : VK} {E : XK} (h : sp_put_word_number K A vs H Q E) : t_put_word_number K A { nx := fun _ H' => Q .non H', rt := Q } (start ["data", "offset", "size", "big", "number", "at"] vs) H := by
  obtain ⟨a, ds, o, n, big, z, rfl, ha, h0, h1, h2, h3, k⟩ := h
  show t_put_word_number K A _ [some (.ref a), some (.int o), some (.int n), some (.bl big), some (.int z), none] H
  unfold t_put_word_number
  have hz : o.toNat + n.toNat ≤ ds.length := by omega
  have hL : Led K H [a] H [(a, .raw (.lst (ds.map V.int)))] [] := Led.mk1 ha
  have hl : ∀ i : Nat, i ≤ n.toNat → (ord big (dg 256 i z ++ (ord big (seg ds o.toNat n.toNat)).drop i)).length = n.toNat := fun i hi => by rw [ord_len, List.length_append, dg_len, List.length_drop, ord_len, seg_len hz]; omega
  walk_at "gs"
  refine lpR (fun i σ H1 => ∃ y : Option V, σ = [some (.ref a), some (.int o), some (.int n), some (.bl big), some (.int (z / 256 ^ i)), y] ∧
      Led K H [a] H1 [(a, .raw (.lst ((putSeg ds o.toNat (ord big (dg 256 i z ++ (ord big (seg ds o.toNat n.toNat)).drop i))).map V.int)))] [])
    ⟨none, by rw [Int.pow_zero, Int.ediv_one], by rw [List.drop_zero]; show Led K H [a] H [(a, .raw (.lst ((putSeg ds o.toNat (ord big (ord big (seg ds o.toNat n.toNat)))).map V.int)))] []; rw [ord_ord, putSeg_seg hz]; exact hL⟩ ?_ ?_
  · rintro i σ H1 hi ⟨y, rfl, hl1⟩
    have nx := pw_next (big := big) (z := z) hz hi
    have hlen : (putSeg ds o.toNat (ord big (dg 256 i z ++ (ord big (seg ds o.toNat n.toNat)).drop i))).length = ds.length := putSeg_len (by rw [hl i (by omega)]; exact hz)
    have e : z / 256 ^ i / 256 = z / 256 ^ (i + 1) := by rw [Int.ediv_ediv_of_nonneg (Int.le_of_lt (Int.pow_pos (by decide))), Int.pow_succ]
    walk_at "gs"
    cases big
    · walk_at "gs"
      refine h_setI 0 hl1 rfl (.inr (by simp)) (by omega) (by omega) fun H2 h2 => ?_
      rw [show (o + (0 + (i : Int))).toNat = o.toNat + i by omega] at h2
      walk_at "gs"
      rw [e]
      refine ⟨_, rfl, ?_⟩
      rw [← nx]
      exact h2
    · walk_at "gs"
      refine h_setI 0 hl1 rfl (.inr (by simp)) (by omega) (by omega) fun H2 h2 => ?_
      rw [show (o + (n - 1 - (0 + (i : Int)))).toNat = o.toNat + (n.toNat - 1 - i) by omega] at h2
      walk_at "gs"
      rw [e]
      refine ⟨_, rfl, ?_⟩
      rw [← nx]
      exact h2
  · rintro σ H1 ⟨y, rfl, h4⟩
    rw [List.drop_eq_nil_of_le (by rw [ord_len, seg_len hz]; exact Nat.le_refl _), List.append_nil] at h4
    exact k H1 h4.kp (h4.raw 0 rfl)
def t_read_slot (K : PySem.W.Frag) (A : Ad) : TS :=
  (tSeq (tAsg (tOp mMod (tOp mFdiv (tCall (sp_word_number K A) [] E0 (tCons (mV 0) (tCons (mV 1) (tCons (mV 2) (tCons (mV 3) tNil))))) (tCall (sp_power K A) [] E0 (tCons (mV 4) tNil))) (tCall (sp_power K A) [] E0 (tCons (mV 5) tNil))) (gName 7))
  (tSeq (mIf (tAnd (mTr K (mV 6)) (mTest (tOp mGe (mV 7) (tCall (sp_power K A) [] E0 (tCons (tOp mSub (mV 5) (tC (.int 1))) tNil)))))
    (tRet (tOp mSub (mV 7) (tCall (sp_power K A) [] E0 (tCons (mV 5) tNil))))
    tNext)
  (tRet (mV 7))))
theorem rd_read_slot {K : PySem.W.Frag} {A : Ad} {vs : List V} {H : Hp} {Q : VK} {E : XK} (h : sp_read_slot K A vs H Q E) : t_read_slot K A { nx := fun _ H' => Q .non H', rt := Q } (start ["data", "offset", "size", "big", "first", "width", "signed", "number"] vs) H := by
  obtain ⟨a, ds, o, n, big, f, w, s, rfl, hS, h0, h1, h2, h3, h4, h5, h6, h7, k⟩ := h
  show t_read_slot K A _ [some (.ref a), some (.int o), some (.int n), some (.bl big), some (.int f), some (.int w), some (.bl s), none] H
  unfold t_read_slot
  have e : (w - 1).toNat = w.toNat - 1 := by omega
  have pf := p2_pos f.toNat
  have pw := p2_pos w.toNat
  have pf2 : (2 : Int) ^ f.toNat ≤ 2 ^ 63 := p2_le (by omega)
  walk_at "gs"
  refine ⟨a, ds, o, n, big, rfl, hS, h0, h1, h2, h3, ?_⟩
  walk_at "gs"
  unfold rslot sgn at k
  refine h_itb (fun hs => ?_) (fun hs => ?_)
  · subst hs
    walk_at "gs"
    refine h_br (fun hc => ?_) (fun hc => ?_)
    · rw [e] at hc
      rw [if_pos ⟨rfl, hc⟩] at k
      walk_at "gs"
      exact k
    · rw [e] at hc
      rw [if_neg (fun z => hc z.2)] at k
      walk_at "gs"
      exact k
  · subst hs
    rw [if_neg (fun z => Bool.false_ne_true z.1)] at k
    walk_at "gs"
    exact k
def t_write_slot (K : PySem.W.Frag) (A : Ad) (W : WX) : TS :=
  (tSeq (tAsg (tCall (sp_bounds K A) [] E0 (tCons (mV 5) (tCons (mV 6) tNil))) (gTup K 2 (mGc (gName 8) (mGc (gName 9) mGn))))
  (tSeq (mIf (tOr (mTest (tOp mLt (mV 7) (mV 8))) (mTest (tOp mGt (mV 7) (mV 9))))
    (mRaise0 A.c_OutOfRange W)
    tNext)
  (tSeq (tAsg (tCall (sp_word_number K A) [] E0 (tCons (mV 0) (tCons (mV 1) (tCons (mV 2) (tCons (mV 3) tNil))))) (gName 10))
  (tSeq (tAsg (tOp mMod (tOp mFdiv (mV 10) (tCall (sp_power K A) [] E0 (tCons (mV 4) tNil))) (tCall (sp_power K A) [] E0 (tCons (mV 5) tNil))) (gName 11))
  (tSeq (tAsg (tOp mMod (mV 7) (tCall (sp_power K A) [] E0 (tCons (mV 5) tNil))) (gName 12))
  (tDrop (tCall (sp_put_word_number K A) [] E0 (tCons (mV 0) (tCons (mV 1) (tCons (mV 2) (tCons (mV 3) (tCons (tOp (mAdd K) (mV 10) (tOp mMul (tOp mSub (mV 12) (mV 11)) (tCall (sp_power K A) [] E0 (tCons (mV 4) tNil)))) tNil))))))))))))
theorem rd_write_slot {K : PySem.W.Frag} {A : Ad} {vs : List V} {H : Hp} {Q : VK} {E : XK} (h : sp_write_slot K A vs H Q E) : t_write_slot K A (fun cls d _ H => E cls d H) { nx := fun _ H' => Q .non H', rt := Q } (start ["data", "offset", "size", "big", "first", "width", "signed", "value", "least", "most", "number", "old", "new"] vs) H := by
  obtain ⟨a, ds, o, n, big, f, w, s, v, rfl, ha, h0, h1, h2, h3, h4, h5, h6, h7, kx, k⟩ := h
  show t_write_slot K A _ _ [some (.ref a), some (.int o), some (.int n), some (.bl big), some (.int f), some (.int w), some (.bl s), some (.int v), none, none, none, none, none] H
  unfold t_write_slot
  have hL : Led K H [a] H [(a, .raw (.lst (ds.map V.int)))] [] := Led.mk1 ha
  have e : (w - 1).toNat = w.toNat - 1 := by omega
  have pf := p2_pos f.toNat
  have pw := p2_pos w.toNat
  have pf2 : (2 : Int) ^ f.toNat ≤ 2 ^ 63 := p2_le (by omega)
  have pw2 : (2 : Int) ^ w.toNat ≤ 2 ^ 63 := p2_le (by omega)
  walk_at "gs"
  rename_i p H1 hp1
  have s1 : Same H H1 := fun b u hb => by
    rcases Classical.em (b = a) with z | z
    · subst z
      rw [hb] at ha
      cases ha
      exact hp1.raw 0 rfl
    · exact hp1.kp b u hb (by simpa using z)
  have raise : (v < lo w.toNat s ∨ hi w.toNat s < v) → E (.ref A.c_OutOfRange) none H1 := fun q => kx q H1 s1
  refine h_ite (fun hc => ?_) (fun hc => ?_)
  · walk_at "gs"
    exact raise (.inl hc)
  · walk_at "gs"
    refine h_br (fun hc2 => ?_) (fun hc2 => ?_)
    · walk_at "gs"
      exact raise (.inr hc2)
    · clear hL
      walk_at "gs"
      have b1 := Int.emod_nonneg v (show (2 : Int) ^ w.toNat ≠ 0 by omega)
      have b2 := Int.emod_lt_of_pos v pw
      have b3 := Int.emod_nonneg (wnum ds o.toNat n.toNat big / 2 ^ f.toNat) (show (2 : Int) ^ w.toNat ≠ 0 by omega)
      have b4 := Int.emod_lt_of_pos (wnum ds o.toNat n.toNat big / 2 ^ f.toNat) pw
      walk_at "gs"
      rename_i H2 h8
      exact k (by omega) (by omega) H2 h8.kp (h8.raw 0 rfl)
def t_read_word (K : PySem.W.Frag) (A : Ad) : TS :=
  (tRet (tCall (sp_word_number K A) [] E0 (tCons (mV 0) (tCons (mV 1) (tCons (mV 2) (tCons (tC (.bl false)) tNil))))))
theorem rd_read_word {K : PySem.W.Frag} {A : Ad} {vs : List V} {H : Hp} {Q : VK} {E : XK} (h : sp_read_word K A vs H Q E) : t_read_word K A { nx := fun _ H' => Q .non H', rt := Q } (start ["data", "offset", "size"] vs) H := by
  obtain ⟨a, ds, o, n, rfl, hS, h0, h1, h2, h3, k⟩ := h
  show t_read_word K A _ [some (.ref a), some (.int o), some (.int n)] H
  unfold t_read_word
  walk_at "gs"
  exact ⟨a, ds, o, n, false, rfl, hS, h0, h1, h2, h3, k⟩
def t_write_word (K : PySem.W.Frag) (A : Ad) : TS :=
  (tDrop (tCall (sp_put_word_number K A) [] E0 (tCons (mV 0) (tCons (mV 1) (tCons (mV 2) (tCons (tC (.bl false)) (tCons (mV 3) tNil)))))))
theorem rd_write_word {K : PySem.W.Frag} {A : Ad} {vs : List V} {H : Hp} {Q : VK} {E : XK} (h : sp_write_word K A vs H Q E) : t_write_word K A { nx := fun _ H' => Q .non H', rt := Q } (start ["data", "offset", "size", "value"] vs) H := by
  obtain ⟨a, ds, o, n, z, rfl, ha, h0, h1, h2, h3, k⟩ := h
  show t_write_word K A _ [some (.ref a), some (.int o), some (.int n), some (.int z)] H
  unfold t_write_word
  walk_at "gs"
  refine ⟨a, ds, o, n, false, z, rfl, ha, h0, h1, h2, h3, fun H1 kb h1 => ?_⟩
  walk_at "gs"
  exact k H1 kb h1

/-! ### slots and their bits -/
structure Sl where
  o : Nat
  n : Nat
  big : Bool
  f : Nat
  w : Nat
  s : Bool
def sd (x : Sl) : PyData := .tuple [.int x.o, .int x.n, .bool x.big, .int x.f, .int x.w, .bool x.s]
def pos (x : Sl) (b : Nat) : Nat := (x.o + if x.big = true then x.n - 1 - b / 8 else b / 8) * 8 + b % 8
def ps (x : Sl) : List Nat := (List.range x.w).map fun i => pos x (x.f + i)
def bitB (ds : List Int) (p : Nat) : Int := ds.getD (p / 8) 0 / 2 ^ (p % 8) % 2
structure SlOk (m : Nat) (x : Sl) : Prop where
  n0 : 1 ≤ x.n
  n4 : x.n ≤ 4
  on : x.o + x.n ≤ m
  w0 : 1 ≤ x.w
  fw : x.f + x.w ≤ 8 * x.n
def ap (x y : Sl) : Prop := x.o + x.n ≤ y.o ∨ (x.o = y.o ∧ x.n = y.n ∧ x.big = y.big ∧ x.f + x.w ≤ y.f)
def rd (ds : List Int) (x : Sl) : Int := rslot ds x.o x.n x.big x.f x.w x.s
def wr (ds : List Int) (x : Sl) (v : Int) : List Int := wslot ds x.o x.n x.big x.f x.w v
theorem flat_get : ∀ (l : List Int) (q r : Nat), r < 8 → q < l.length → (l.flatMap (dg 2 8)).getD (8 * q + r) 0 = l.getD q 0 / 2 ^ r % 2
  | [], _, _, _, h => absurd h (Nat.not_lt_zero _)
  | x :: l, 0, r, hr, _ => by
    rw [List.flatMap_cons, List.getD_eq_getElem?_getD, Nat.mul_zero, Nat.zero_add, List.getElem?_append_left (by rw [dg_len]; exact hr), ← List.getD_eq_getElem?_getD, dg_get (by decide) _ _ hr]
    rfl
  | x :: l, q + 1, r, hr, h => by
    have ih := flat_get l q r hr (by simpa using h)
    rw [List.flatMap_cons, List.getD_eq_getElem?_getD, List.getElem?_append_right (by rw [dg_len]; omega), dg_len, show 8 * (q + 1) + r - 8 = 8 * q + r by omega, ← List.getD_eq_getElem?_getD, ih]
    rfl
/-- a word's bit, at its place -/
theorem word_bit {ds : List Int} {x : Sl} {b : Nat} (hb : Byt ds) (h : x.o + x.n ≤ ds.length) (hw : b < 8 * x.n) : (dg 2 (8 * x.n) (wnum ds x.o x.n x.big)).getD b 0 = bitB ds (pos x b) := by
  have e := bits_vn (l := ord x.big (seg ds x.o x.n)) (byt_ord (seg_byt hb))
  rw [ord_len, seg_len h] at e
  have q : wnum ds x.o x.n x.big = vn 256 (ord x.big (seg ds x.o x.n)) := rfl
  have hq : b / 8 < x.n := by omega
  rw [q, ← e, show b = 8 * (b / 8) + b % 8 by omega, flat_get _ _ _ (Nat.mod_lt _ (by decide)) (by rw [ord_len, seg_len h]; omega), ord_get (by rw [seg_len h]; omega), seg_len h]
  unfold bitB pos
  have hm : (8 * (b / 8) + b % 8) / 8 = b / 8 := by omega
  have hm2 : (8 * (b / 8) + b % 8) % 8 = b % 8 := by omega
  rw [hm, hm2]
  cases x.big
  · simp only [Bool.false_eq_true, if_false]
    rw [seg_get hq, show ((x.o + b / 8) * 8 + b % 8) / 8 = x.o + b / 8 by omega, show ((x.o + b / 8) * 8 + b % 8) % 8 = b % 8 by omega]
  · simp only [if_true]
    rw [seg_get (by omega), show ((x.o + (x.n - 1 - b / 8)) * 8 + b % 8) / 8 = x.o + (x.n - 1 - b / 8) by omega, show ((x.o + (x.n - 1 - b / 8)) * 8 + b % 8) % 8 = b % 8 by omega]
theorem slot_dg {n f w : Nat} (h : f + w ≤ n) (z : Int) : ((dg 2 n z).take (f + w)).drop f = dg 2 w (z / 2 ^ f) := by
  rw [dg_take (by decide) _ _ h, dg_drop (by decide) _ _ (by omega), Nat.add_sub_cancel_left]
/-- a slot's bits, at their places -/
theorem slot_bits {ds : List Int} {x : Sl} {m : Nat} (hb : Byt ds) (ok : SlOk m x) (h : m ≤ ds.length) : dg 2 x.w (wnum ds x.o x.n x.big / 2 ^ x.f) = (ps x).map (bitB ds) := by
  have h1 := ok.on
  have h2 := ok.fw
  refine List.ext_getElem? fun i => ?_
  by_cases hi : i < x.w
  · have e1 : (dg 2 x.w (wnum ds x.o x.n x.big / 2 ^ x.f))[i]? = some ((dg 2 (8 * x.n) (wnum ds x.o x.n x.big)).getD (x.f + i) 0) := by
      have hl : i < (dg 2 x.w (wnum ds x.o x.n x.big / 2 ^ x.f)).length := by rw [dg_len]; exact hi
      rw [List.getElem?_eq_getElem hl]
      have e : (dg 2 x.w (wnum ds x.o x.n x.big / 2 ^ x.f))[i] = (dg 2 x.w (wnum ds x.o x.n x.big / 2 ^ x.f)).getD i 0 := by rw [List.getD_eq_getElem?_getD, List.getElem?_eq_getElem hl]; rfl
      rw [e, dg_get (by decide) _ _ hi, dg_get (by decide) _ _ (by omega), Int.ediv_ediv_of_nonneg (Int.le_of_lt (p2_pos _)), Int.pow_add]
    rw [e1, word_bit hb (by omega) (by omega)]
    unfold ps
    rw [List.getElem?_map, List.getElem?_map, List.getElem?_range hi]
    rfl
  · rw [List.getElem?_eq_none (by rw [dg_len]; omega), List.getElem?_eq_none (by unfold ps; rw [List.length_map, List.length_map, List.length_range]; omega)]
theorem rd_bits {ds : List Int} {x : Sl} {m : Nat} (hb : Byt ds) (ok : SlOk m x) (h : m ≤ ds.length) : rd ds x = sgn x.w x.s (vn 2 ((ps x).map (bitB ds))) := by
  rw [← slot_bits hb ok h, vn_dg (by decide)]
  rfl
theorem putSeg_get {ds s : List Int} {o q : Nat} (h : o + s.length ≤ ds.length) (hq : q < o ∨ o + s.length ≤ q) : (putSeg ds o s).getD q 0 = ds.getD q 0 := by
  have e : (ds.take o).length = o := by rw [List.length_take]; omega
  unfold putSeg
  rw [List.getD_eq_getElem?_getD, List.getD_eq_getElem?_getD]
  rcases hq with hq | hq
  · rw [List.append_assoc, List.getElem?_append_left (by omega), List.getElem?_take_of_lt hq]
  · rw [List.getElem?_append_right (by rw [List.length_append, e]; exact hq), List.length_append, e, List.getElem?_drop, show o + s.length + (q - (o + s.length)) = q by omega]
theorem wr_len {ds : List Int} {x : Sl} {v : Int} (h : x.o + x.n ≤ ds.length) : (wr ds x v).length = ds.length := put_len h
theorem wr_byt {ds : List Int} {x : Sl} {v : Int} (h : Byt ds) : Byt (wr ds x v) := byt_put h
theorem wr_dg {ds : List Int} {x : Sl} {v : Int} (h : x.o + x.n ≤ ds.length) : dg 2 (8 * x.n) (wnum (wr ds x v) x.o x.n x.big) = dg 2 (8 * x.n) (nslot (wnum ds x.o x.n x.big) x.f x.w v) := by
  unfold wr wslot
  rw [wnum_put h, show (256 : Int) = 2 ^ 8 from rfl, ← Int.pow_mul, dg_mod (by decide)]
/-- other bits stay -/
theorem wr_other {ds : List Int} {x : Sl} {v : Int} {p m : Nat} (hb : Byt ds) (ok : SlOk m x) (h : m ≤ ds.length) (hp : p ∉ ps x) : bitB (wr ds x v) p = bitB ds p := by
  have h1 := ok.on
  have h2 := ok.fw
  by_cases hq : p / 8 < x.o ∨ x.o + x.n ≤ p / 8
  · unfold bitB wr wslot put
    rw [putSeg_get (by rw [ord_len, dg_len]; omega) (by rw [ord_len, dg_len]; exact hq)]
  · obtain ⟨b, hb8, hpos⟩ : ∃ b, b < 8 * x.n ∧ pos x b = p := by
      refine ⟨(if x.big = true then x.n - 1 - (p / 8 - x.o) else p / 8 - x.o) * 8 + p % 8, ?_, ?_⟩
      · split <;> omega
      · unfold pos
        cases x.big
        · simp only [Bool.false_eq_true, if_false]
          omega
        · simp only [if_true]
          omega
    have hnot : b < x.f ∨ x.f + x.w ≤ b := by
      by_cases c : b < x.f ∨ x.f + x.w ≤ b
      · exact c
      · exact absurd (List.mem_map.mpr ⟨b - x.f, List.mem_range.mpr (by omega), by rw [show x.f + (b - x.f) = b by omega]; exact hpos⟩) hp
    have e1 := word_bit (ds := wr ds x v) (x := x) (b := b) (wr_byt hb) (by rw [wr_len (by omega)]; omega) hb8
    have e2 := word_bit (ds := ds) (x := x) (b := b) hb (by omega) hb8
    rw [hpos] at e1 e2
    rw [← e1, ← e2, wr_dg (by omega), nslot_bits _ _ _ _ _ h2, List.getD_eq_getElem?_getD, List.getD_eq_getElem?_getD]
    rcases hnot with c | c
    · rw [List.append_assoc, List.getElem?_append_left (by rw [List.length_take, dg_len]; omega), List.getElem?_take_of_lt c]
    · rw [List.getElem?_append_right (by rw [List.length_append, List.length_take, dg_len, dg_len]; omega), List.getElem?_drop, List.length_append, List.length_take, dg_len, dg_len, Nat.min_eq_left (by omega), show x.f + x.w + (b - (x.f + x.w)) = b by omega]
theorem sgn_mod {w : Nat} {s : Bool} {v : Int} (hw : 1 ≤ w) (h0 : lo w s ≤ v) (h1 : v ≤ hi w s) : sgn w s (v % 2 ^ w) = v := by
  obtain ⟨k, rfl⟩ := Nat.exists_eq_add_of_le' hw
  have hp := p2_pos k
  unfold lo at h0
  unfold hi at h1
  unfold sgn
  rw [Nat.add_sub_cancel] at *
  have e : (2 : Int) ^ (k + 1) = 2 ^ k + 2 ^ k := by rw [Int.pow_succ]; omega
  rw [e] at *
  cases s
  · simp only [Bool.false_eq_true, if_false] at h0 h1
    rw [if_neg (fun z => Bool.false_ne_true z.1), Int.emod_eq_of_lt h0 (by omega)]
  · simp only [if_true] at h0 h1
    by_cases c : 0 ≤ v
    · rw [Int.emod_eq_of_lt c (by omega), if_neg (fun z => by have := z.2; omega)]
    · have q : v % (2 ^ k + 2 ^ k) = v + (2 ^ k + 2 ^ k) := by
        rw [← Int.add_emod_right, Int.emod_eq_of_lt (by omega) (by omega)]
      rw [q, if_pos ⟨rfl, by omega⟩]
      omega
/-- the slot has what was written -/
theorem rd_wr {ds : List Int} {x : Sl} {v : Int} {m : Nat} (ok : SlOk m x) (h : m ≤ ds.length) (h0 : lo x.w x.s ≤ v) (h1 : v ≤ hi x.w x.s) : rd (wr ds x v) x = v := by
  have h3 := ok.on
  have h2 := ok.fw
  have e : dg 2 x.w (wnum (wr ds x v) x.o x.n x.big / 2 ^ x.f) = dg 2 x.w v := by
    rw [← slot_dg h2, wr_dg (by omega), nslot_bits _ _ _ _ _ h2, List.take_left' (by rw [List.length_append, List.length_take, dg_len, dg_len]; omega), List.drop_left' (by rw [List.length_take, dg_len]; omega)]
  have q := congrArg (vn 2) e
  rw [vn_dg (by decide), vn_dg (by decide)] at q
  show sgn x.w x.s (wnum (wr ds x v) x.o x.n x.big / 2 ^ x.f % 2 ^ x.w) = v
  rw [q]
  exact sgn_mod ok.w0 h0 h1
theorem ap_disj {x y : Sl} {m : Nat} (hx : SlOk m x) (hy : SlOk m y) (h : ap x y) {p : Nat} (h1 : p ∈ ps x) (h2 : p ∈ ps y) : False := by
  obtain ⟨i, hi, e1⟩ := List.mem_map.mp h1
  obtain ⟨j, hj, e2⟩ := List.mem_map.mp h2
  have hi := List.mem_range.mp hi
  have hj := List.mem_range.mp hj
  have a1 := hx.fw
  have a2 := hy.fw
  have e : pos x (x.f + i) = pos y (y.f + j) := e1.trans e2.symm
  unfold pos at e
  rcases h with h | ⟨h3, h4, h5, h6⟩
  · have b1 : (if x.big = true then x.n - 1 - (x.f + i) / 8 else (x.f + i) / 8) < x.n := by split <;> omega
    omega
  · rw [← h5, ← h4] at e
    split at e <;> omega
theorem rd_other {ds : List Int} {x y : Sl} {v : Int} {m : Nat} (hb : Byt ds) (hx : SlOk m x) (hy : SlOk m y) (h : m ≤ ds.length) (hd : ∀ p, p ∈ ps x → p ∈ ps y → False) : rd (wr ds x v) y = rd ds y := by
  have h3 := hx.on
  rw [rd_bits (wr_byt hb) hy (by rw [wr_len (by omega)]; exact h), rd_bits hb hy h]
  congr 2
  exact List.map_congr_left fun p hp => wr_other hb hx h fun q => hd p q hp
theorem pair_ap {l : List Sl} (h : l.Pairwise ap) {i j : Nat} {x y : Sl} (hi : l[i]? = some x) (hj : l[j]? = some y) (hij : i ≠ j) : ap x y ∨ ap y x := by
  obtain ⟨i1, i2⟩ := List.getElem?_eq_some_iff.mp hi
  obtain ⟨j1, j2⟩ := List.getElem?_eq_some_iff.mp hj
  rcases Nat.lt_or_gt_of_ne hij with c | c
  · left
    have := List.pairwise_iff_getElem.mp h i j i1 j1 c
    rw [i2, j2] at this
    exact this
  · right
    have := List.pairwise_iff_getElem.mp h j i j1 i1 c
    rw [i2, j2] at this
    exact this
/-- all slots read -/
theorem rds_wr {ds : List Int} {l : List Sl} {m i : Nat} {x : Sl} {v : Int} (hb : Byt ds) (ok : ∀ y ∈ l, SlOk m y) (hp : l.Pairwise ap) (h : m ≤ ds.length) (hix : l[i]? = some x) (h0 : lo x.w x.s ≤ v) (h1 : v ≤ hi x.w x.s) : l.map (rd (wr ds x v)) = (l.map (rd ds)).set i v := by
  have hx := ok x (List.mem_of_getElem? hix)
  refine List.ext_getElem? fun j => ?_
  rw [List.getElem?_set, List.getElem?_map, List.getElem?_map, List.length_map]
  obtain ⟨i1, i2⟩ := List.getElem?_eq_some_iff.mp hix
  by_cases e : i = j
  · subst e
    rw [if_pos rfl, if_pos i1, hix]
    show some (rd (wr ds x v) x) = _
    rw [rd_wr hx h h0 h1]
  · rw [if_neg e]
    cases q : l[j]? with
    | none => rfl
    | some y =>
      have hy := ok y (List.mem_of_getElem? q)
      show some (rd (wr ds x v) y) = some (rd ds y)
      rw [rd_other hb hx hy h fun p h1 h2 => (pair_ap hp hix q e).elim (fun c => ap_disj hx hy c h1 h2) fun c => ap_disj hy hx c h2 h1]
/-- the bits of no slot -/
def free (ds : List Int) (tk : List Nat) : List Int := ((List.range (8 * ds.length)).filter fun p => !decide (p ∈ tk)).map (bitB ds)
theorem free_wr {ds : List Int} {l : List Sl} {m : Nat} {x : Sl} {v : Int} (hb : Byt ds) (ok : SlOk m x) (hx : x ∈ l) (h : m ≤ ds.length) : free (wr ds x v) (l.flatMap ps) = free ds (l.flatMap ps) := by
  have h1 := ok.on
  unfold free
  rw [wr_len (by omega)]
  refine List.map_congr_left fun p hp => wr_other hb ok h fun q => ?_
  have z := (List.mem_filter.mp hp).2
  simp only [Bool.not_eq_true', decide_eq_false_iff_not] at z
  exact z (List.mem_flatMap.mpr ⟨x, hx, q⟩)
def sp__law_slots (K : PySem.W.Frag) (A : Ad) : Sp := fun vs H Q _ => ∃ (b g : Addr) (ds : List Int) (i : Int), vs = [.ref b] ∧ H b = some (.lst [.ref g, .int i]) ∧ H g = some (.lst (ds.map V.int)) ∧ b ≠ g ∧ 0 ≤ i ∧ i < 2 ^ 50 ∧
  ∀ p H' j (l : List Sl), i ≤ j → j ≤ i + 100 → KBs H H' [b] → H' b = some (.lst [.ref g, .int j]) → H p = none → EntAt K H' p (.dl (l.map sd)) → (∀ x ∈ l, SlOk 16 x) → l.Pairwise ap → l.length ≤ 12 → Q (.ref p) H'
def sp__law_free_bits (K : PySem.W.Frag) (A : Ad) : Sp := fun vs H Q _ => ∃ (a p : Addr) (ds : List Int) (l : List Sl), vs = [.ref a, .ref p] ∧ H a = some (.lst (ds.map V.int)) ∧ EntAt K H p (.dl (l.map sd)) ∧ a ≠ p ∧ (∀ x ∈ l, SlOk 16 x) ∧ l.length ≤ 12 ∧ ds.length = 16 ∧
  ∀ q H', Same H H' → H q = none → H' q = some (.lst ((free ds (l.flatMap ps)).map V.int)) → Q (.ref q) H'
def sp__law_list_is (K : PySem.W.Frag) (A : Ad) : Sp := fun vs H Q _ => ∃ (a b : Addr) (ns : List Int), vs = [.ref a, .ref b] ∧ H a = some (.lst (ns.map V.int)) ∧ H b = some (.lst (ns.map V.int)) ∧ a ≠ b ∧ ns.length ≤ 1000 ∧ (∀ x ∈ ns, x.natAbs < 10 ^ 12) ∧ ∀ H', Same H H' → Q (.bl true) H'
def sp_law (K : PySem.W.Frag) (A : Ad) : Sp := fun vs H Q _ => ∃ (a : Addr) (ns : List Int), vs = [.ref a] ∧ SqL K H a (ns.map V.int) ∧ ∀ H', Q (.bl true) H'
section
variable {K : PySem.W.Frag} {A : Ad} {H0 H : Hp} {S : List Addr} {L : List (Addr × Ent)} {I : List (V × PyData)} {Q : VK} {E : XK} {i : Int} {x y : V}
theorem h_slots (n : Nat) (h : Led K H0 S H L I) {b g : Addr} {ds : List Int} {i : Int} (e : L[n]? = some (b, .raw (.lst [.ref g, .int i]))) (e2 : L[n + 1]? = some (g, .raw (.lst (ds.map V.int)))) (h0 : 0 ≤ i) (h1 : i < 2 ^ 50)
    (hs : H0 b = none ∨ b ∈ S) (k : ∀ p H' j (l : List Sl), i ≤ j → j ≤ i + 100 → (∀ x ∈ l, SlOk 16 x) → l.Pairwise ap → l.length ≤ 12 → Led K H0 S H' ((p, .dl (l.map sd)) :: L.set n (b, .raw (.lst [.ref g, .int j]))) I → Q (.ref p) H') : sp__law_slots K A [.ref b] H Q E :=
  ⟨b, g, ds, i, rfl, h.raw n e, h.raw (n + 1) e2, h.ne n (n + 1) e e2 (by omega), h0, h1, fun p H' j l j0 j1 kb he hp hl ok pw ln => k p H' j l j0 j1 ok pw ln (by
    have q := h.wr (e' := .raw (.lst [.ref g, .int j])) n e kb (h.raw n e) rfl he hs
    refine q.cons hl fun m => ?_
    have z : (L.set n (b, Ent.raw (.lst [.ref g, .int j]))).map (·.1) = L.map (·.1) := by
      rw [List.map_set]
      refine List.ext_getElem? fun t => ?_
      by_cases ht : n = t
      · subst ht
        rw [List.getElem?_set, if_pos rfl, List.getElem?_map, e]
        split
        · rfl
        · rename_i w
          rw [List.length_map] at w
          exact absurd (List.getElem?_eq_some_iff.mp e).1 w
      · rw [List.getElem?_set_ne ht]
    rw [z] at m
    exact h.notin hp m)⟩
theorem h_ixD (n : Nat) (h : Led K H0 S H L I) {a : Addr} {ds : List PyData} {d : PyData} (e : L[n]? = some (a, .dl ds)) (h0 : 0 ≤ i) (hx : ds[i.toNat]? = some d) (k : ∀ v, Im K H v d → Q v H) : rIx K (.ref a) (.int i) H Q := by
  obtain ⟨xs, ha, hd⟩ := h.at_ n a _ e
  obtain ⟨v, hv, hi⟩ := hd.get' hx
  exact .inl ⟨a, xs, i, v, rfl, rfl, SqL.of ha, at_nn h0 hv, k v hi⟩
theorem any_eqv (ns : List Int) (z : Int) : ((ns.map PyData.int).any fun w => PyData.eqv w (.int z)) = decide (z ∈ ns) := by
  rw [Bool.eq_iff_iff, List.any_eq_true]
  simp only [decide_eq_true_eq]
  constructor
  · rintro ⟨w, hw, e⟩
    obtain ⟨y, hy, rfl⟩ := List.mem_map.mp hw
    simp [PyData.eqv] at e
    rw [← e]
    exact hy
  · intro hz
    exact ⟨_, List.mem_map.mpr ⟨z, hz, rfl⟩, by simp [PyData.eqv]⟩
theorem h_ninI (n : Nat) (h : Led K H0 S H L I) {a : Addr} {ns : List Int} {z : Int} (e : L[n]? = some (a, .raw (.lst (ns.map V.int)))) (k : Q (.bl (!decide (z ∈ ns))) H) : uNin K (.int z) (.ref a) H Q :=
  .inr ⟨.int z, _, .int z, h.dpI n e, (lay_int z).shaped, (lay_ints ns).shaped, by rw [any_eqv]; exact k⟩
theorem h_isiL (n : Nat) (h : Led K H0 S H L I) {a : Addr} {xs : List V} (e : L[n]? = some (a, .raw (.lst xs))) (k : Q (.bl true) H) : rIsi K [.ref a, .ty "list"] H Q := ⟨_, _, _, _, true, rfl, .ty "list", .base (.lst (h.raw n e)), kit_ty (by decide +kernel), k⟩
theorem h_freebits (n m : Nat) (hnm : n ≠ m) (h : Led K H0 S H L I) {a p : Addr} {ds : List Int} {l : List Sl} (e : L[n]? = some (a, .raw (.lst (ds.map V.int)))) (e2 : L[m]? = some (p, .dl (l.map sd))) (ok : ∀ x ∈ l, SlOk 16 x) (hl : l.length ≤ 12) (hd : ds.length = 16)
    (k : ∀ q H', (H0 q = none ∨ q ∈ S) → Led K H0 S H' ((q, .raw (.lst ((free ds (l.flatMap ps)).map V.int))) :: L) I → Q (.ref q) H') : sp__law_free_bits K A [.ref a, .ref p] H Q E :=
  ⟨a, p, ds, l, rfl, h.raw n e, h.at_ m p _ e2, h.ne n m e e2 hnm, ok, hl, hd, fun q H' sm hq he => k q H' (h.fr hq) (h.new sm hq he)⟩
theorem h_listis (n m : Nat) (hnm : n ≠ m) (h : Led K H0 S H L I) {a b : Addr} {ns : List Int} (e : L[n]? = some (a, .raw (.lst (ns.map V.int)))) (e2 : L[m]? = some (b, .raw (.lst (ns.map V.int)))) (hl : ns.length ≤ 1000) (hb : ∀ x ∈ ns, x.natAbs < 10 ^ 12)
    (k : ∀ H', Led K H0 S H' L I → Q (.bl true) H') : sp__law_list_is K A [.ref a, .ref b] H Q E :=
  ⟨a, b, ns, rfl, h.raw n e, h.raw m e2, h.ne n m e e2 hnm, hl, hb, fun H' sm => k H' (h.same sm)⟩
end

local macro_rules | `(tactic| walk_at "im") => `(tactic| (first | apply Im.int | apply Im.str | apply Im.bl | apply Im.non | assumption | (apply h_imm 0; (case h => assumption); (case e => with_unfolding_all rfl)) | (apply h_imm 1; (case h => assumption); (case e => with_unfolding_all rfl)) | (apply h_imm 2; (case h => assumption); (case e => with_unfolding_all rfl)) | (apply h_imm 3; (case h => assumption); (case e => with_unfolding_all rfl)) | (apply h_imm 4; (case h => assumption); (case e => with_unfolding_all rfl)) | (apply h_imm 5; (case h => assumption); (case e => with_unfolding_all rfl))))
local macro_rules | `(tactic| walk_at "ims") => `(tactic| repeat (first | apply Ims.nil | (apply Ims.cons; (focus (first | apply Im.int | apply Im.str | apply Im.bl | apply Im.non | assumption | (apply h_imm 0; (case h => assumption); (case e => with_unfolding_all rfl)) | (apply h_imm 1; (case h => assumption); (case e => with_unfolding_all rfl)) | (apply h_imm 2; (case h => assumption); (case e => with_unfolding_all rfl)) | (apply h_imm 3; (case h => assumption); (case e => with_unfolding_all rfl)) | (apply h_imm 4; (case h => assumption); (case e => with_unfolding_all rfl)) | (apply h_imm 5; (case h => assumption); (case e => with_unfolding_all rfl)))))))
local macro_rules | `(tactic| walk_at "sz") => `(tactic| (rw [sizeLine_eq]; ((try simp only [List.length_append, List.length_cons, List.length_nil, List.length_map, List.length_replicate, List.length_set, List.length_take, List.length_drop]) <;> omega)))
local macro_rules | `(tactic| walk_at "fr") => `(tactic| (first | assumption | (apply Or.inl; assumption) | (apply Or.inr; simp)))
local macro_rules | `(tactic| walk_at "ds") => `(tactic| dsimp only [a_lk0, a_lk1, a_lkS, a_V, a_vl, a_c, a_op, a_un, a_test, a_toB, a_tr, a_trB, a_trI, a_trN, a_and, a_or, a_not, a_andV, a_orV, a_notV, a_ifE, a_nil, a_cons, a_lst, a_tup, a_call, a_CB, a_BM, a_BM0, a_sl, a_part, a_partI, a_noPart, a_seq, a_next, a_brk, a_cont, a_asg, a_name, a_drop, a_ret, a_retN, a_if, a_aug, a_for, a_lc, a_jR1, a_jR2, a_jL, a_jT, a_rg1, a_rg2, a_gsub, a_yes, a_addI, a_addS, a_addR, a_iaddI, a_iaddS, a_sub, a_mulI, a_mulR, a_fdiv, a_mod, a_pow, a_shl, a_shr, a_lt, a_le, a_gt, a_ge, a_neg, a_EqI, a_EqS, a_EqB, a_EqNN, a_EqIN, a_EqNI, a_EqSN, a_EqNS, a_EqRR, a_EqRN, a_EqNR, a_NeI, a_NeS, a_NeB, a_NeNN, a_NeIN, a_NeNI, a_NeSN, a_NeNS, a_NeRR, a_NeRN, a_NeNR, a_isNN, a_isNI, a_isNS, a_isNB, a_isNR, a_notNN, a_notNI, a_notNS, a_notNB, a_notNR, a_intI, a_intB, a_abs, a_gnil, a_gcons, a_callS, a_raise0, a_tryAs, a_tryOnly, a_rev, a_jR3, wipe, List.set, List.nil_append, List.cons_append])
local macro_rules | `(tactic| walk_at "gs") => `(tactic| repeat (first | dsimp only [a_lk0, a_lk1, a_lkS, a_V, a_vl, a_c, a_op, a_un, a_test, a_toB, a_tr, a_trB, a_trI, a_trN, a_and, a_or, a_not, a_andV, a_orV, a_notV, a_ifE, a_nil, a_cons, a_lst, a_tup, a_call, a_CB, a_BM, a_BM0, a_sl, a_part, a_partI, a_noPart, a_seq, a_next, a_brk, a_cont, a_asg, a_name, a_drop, a_ret, a_retN, a_if, a_aug, a_for, a_lc, a_jR1, a_jR2, a_jL, a_jT, a_rg1, a_rg2, a_gsub, a_yes, a_addI, a_addS, a_addR, a_iaddI, a_iaddS, a_sub, a_mulI, a_mulR, a_fdiv, a_mod, a_pow, a_shl, a_shr, a_lt, a_le, a_gt, a_ge, a_neg, a_EqI, a_EqS, a_EqB, a_EqNN, a_EqIN, a_EqNI, a_EqSN, a_EqNS, a_EqRR, a_EqRN, a_EqNR, a_NeI, a_NeS, a_NeB, a_NeNN, a_NeIN, a_NeNI, a_NeSN, a_NeNS, a_NeRR, a_NeRN, a_NeNR, a_isNN, a_isNI, a_isNS, a_isNB, a_isNR, a_notNN, a_notNI, a_notNS, a_notNB, a_notNR, a_intI, a_intB, a_abs, a_gnil, a_gcons, a_callS, a_raise0, a_tryAs, a_tryOnly, a_rev, a_jR3, wipe, List.set, List.nil_append, List.cons_append] | with_reducible (first
  | (apply h_appI 2; (case h => assumption); (case e => with_unfolding_all rfl); (case hs => (first | assumption | (apply Or.inl; assumption) | (apply Or.inr; simp))); (case z => (rw [sizeLine_eq]; ((try simp only [List.length_append, List.length_cons, List.length_nil, List.length_map, List.length_replicate, List.length_set, List.length_take, List.length_drop]) <;> omega))))
  | (apply h_appI 1; (case h => assumption); (case e => with_unfolding_all rfl); (case hs => (first | assumption | (apply Or.inl; assumption) | (apply Or.inr; simp))); (case z => (rw [sizeLine_eq]; ((try simp only [List.length_append, List.length_cons, List.length_nil, List.length_map, List.length_replicate, List.length_set, List.length_take, List.length_drop]) <;> omega))))
  | (apply h_appI 0; (case h => assumption); (case e => with_unfolding_all rfl); (case hs => (first | assumption | (apply Or.inl; assumption) | (apply Or.inr; simp))); (case z => (rw [sizeLine_eq]; ((try simp only [List.length_append, List.length_cons, List.length_nil, List.length_map, List.length_replicate, List.length_set, List.length_take, List.length_drop]) <;> omega))))
  | (apply h_draw 0; (case h => assumption); (case e => with_unfolding_all rfl); (case e2 => with_unfolding_all rfl); (case h0 => (first | decide | omega | (simp only [List.length_map, List.length_append, List.length_take, List.length_drop, List.length_set]; omega))); (case h1 => (first | decide | omega | (simp only [List.length_map, List.length_append, List.length_take, List.length_drop, List.length_set]; omega))); (case h2 => (first | decide | omega | (simp only [List.length_map, List.length_append, List.length_take, List.length_drop, List.length_set]; omega))); (case hs => (first | assumption | (apply Or.inl; assumption) | (apply Or.inr; simp))))
  | (apply h_draw 1; (case h => assumption); (case e => with_unfolding_all rfl); (case e2 => with_unfolding_all rfl); (case h0 => (first | decide | omega | (simp only [List.length_map, List.length_append, List.length_take, List.length_drop, List.length_set]; omega))); (case h1 => (first | decide | omega | (simp only [List.length_map, List.length_append, List.length_take, List.length_drop, List.length_set]; omega))); (case h2 => (first | decide | omega | (simp only [List.length_map, List.length_append, List.length_take, List.length_drop, List.length_set]; omega))); (case hs => (first | assumption | (apply Or.inl; assumption) | (apply Or.inr; simp))))
  | (apply h_draw 2; (case h => assumption); (case e => with_unfolding_all rfl); (case e2 => with_unfolding_all rfl); (case h0 => (first | decide | omega | (simp only [List.length_map, List.length_append, List.length_take, List.length_drop, List.length_set]; omega))); (case h1 => (first | decide | omega | (simp only [List.length_map, List.length_append, List.length_take, List.length_drop, List.length_set]; omega))); (case h2 => (first | decide | omega | (simp only [List.length_map, List.length_append, List.length_take, List.length_drop, List.length_set]; omega))); (case hs => (first | assumption | (apply Or.inl; assumption) | (apply Or.inr; simp))))
  | (apply h_draw 3; (case h => assumption); (case e => with_unfolding_all rfl); (case e2 => with_unfolding_all rfl); (case h0 => (first | decide | omega | (simp only [List.length_map, List.length_append, List.length_take, List.length_drop, List.length_set]; omega))); (case h1 => (first | decide | omega | (simp only [List.length_map, List.length_append, List.length_take, List.length_drop, List.length_set]; omega))); (case h2 => (first | decide | omega | (simp only [List.length_map, List.length_append, List.length_take, List.length_drop, List.length_set]; omega))); (case hs => (first | assumption | (apply Or.inl; assumption) | (apply Or.inr; simp))))
  | (apply h_ixL 0; (case h => assumption); (case e => with_unfolding_all rfl); (case hx => with_unfolding_all rfl))
  | (apply h_ixL 1; (case h => assumption); (case e => with_unfolding_all rfl); (case hx => with_unfolding_all rfl))
  | (apply h_ixL 2; (case h => assumption); (case e => with_unfolding_all rfl); (case hx => with_unfolding_all rfl))
  | (apply h_ixL 3; (case h => assumption); (case e => with_unfolding_all rfl); (case hx => with_unfolding_all rfl))
  | (apply h_ixL 4; (case h => assumption); (case e => with_unfolding_all rfl); (case hx => with_unfolding_all rfl))
  | (apply h_ixTv; (case hd => (first | apply Im.int | apply Im.str | apply Im.bl | apply Im.non | assumption | (apply h_imm 0; (case h => assumption); (case e => with_unfolding_all rfl)) | (apply h_imm 1; (case h => assumption); (case e => with_unfolding_all rfl)) | (apply h_imm 2; (case h => assumption); (case e => with_unfolding_all rfl)) | (apply h_imm 3; (case h => assumption); (case e => with_unfolding_all rfl)) | (apply h_imm 4; (case h => assumption); (case e => with_unfolding_all rfl)) | (apply h_imm 5; (case h => assumption); (case e => with_unfolding_all rfl)))); (case h0 => (first | decide | omega | (simp only [List.length_map, List.length_append, List.length_take, List.length_drop, List.length_set]; omega))); (case hx => with_unfolding_all rfl); (case hv => with_unfolding_all rfl))
  | (apply h_slPre; (case h => assumption); (case hd => (first | apply Im.int | apply Im.str | apply Im.bl | apply Im.non | assumption | (apply h_imm 0; (case h => assumption); (case e => with_unfolding_all rfl)) | (apply h_imm 1; (case h => assumption); (case e => with_unfolding_all rfl)) | (apply h_imm 2; (case h => assumption); (case e => with_unfolding_all rfl)) | (apply h_imm 3; (case h => assumption); (case e => with_unfolding_all rfl)) | (apply h_imm 4; (case h => assumption); (case e => with_unfolding_all rfl)) | (apply h_imm 5; (case h => assumption); (case e => with_unfolding_all rfl)))); (case h0 => (first | decide | omega | (simp only [List.length_map, List.length_append, List.length_take, List.length_drop, List.length_set]; omega))))
  | (apply h_gtupV; (case h => (first | apply Im.int | apply Im.str | apply Im.bl | apply Im.non | assumption | (apply h_imm 0; (case h => assumption); (case e => with_unfolding_all rfl)) | (apply h_imm 1; (case h => assumption); (case e => with_unfolding_all rfl)) | (apply h_imm 2; (case h => assumption); (case e => with_unfolding_all rfl)) | (apply h_imm 3; (case h => assumption); (case e => with_unfolding_all rfl)) | (apply h_imm 4; (case h => assumption); (case e => with_unfolding_all rfl)) | (apply h_imm 5; (case h => assumption); (case e => with_unfolding_all rfl)))); (case hn => with_unfolding_all rfl); (case hv => with_unfolding_all rfl))
  | (apply h_isiB)
  | (apply h_eqr)
  | (apply iteT)
  | (apply h_nT)
  | (apply h_nF)
  | (apply iteF)
  | (apply h_brT)
  | (apply h_brF)
  | (apply h_brET)
  | (apply h_brEF)
  | (apply h_brNT)
  | (apply h_brNF)
  | (apply h_append 0; (case h => assumption); (case e => with_unfolding_all rfl); (case hs => (first | assumption | (apply Or.inl; assumption) | (apply Or.inr; simp))); (case z => (rw [sizeLine_eq]; ((try simp only [List.length_append, List.length_cons, List.length_nil, List.length_map, List.length_replicate, List.length_set, List.length_take, List.length_drop]) <;> omega))))
  | (apply h_append 1; (case h => assumption); (case e => with_unfolding_all rfl); (case hs => (first | assumption | (apply Or.inl; assumption) | (apply Or.inr; simp))); (case z => (rw [sizeLine_eq]; ((try simp only [List.length_append, List.length_cons, List.length_nil, List.length_map, List.length_replicate, List.length_set, List.length_take, List.length_drop]) <;> omega))))
  | (apply h_append 2; (case h => assumption); (case e => with_unfolding_all rfl); (case hs => (first | assumption | (apply Or.inl; assumption) | (apply Or.inr; simp))); (case z => (rw [sizeLine_eq]; ((try simp only [List.length_append, List.length_cons, List.length_nil, List.length_map, List.length_replicate, List.length_set, List.length_take, List.length_drop]) <;> omega))))
  | (apply h_append 3; (case h => assumption); (case e => with_unfolding_all rfl); (case hs => (first | assumption | (apply Or.inl; assumption) | (apply Or.inr; simp))); (case z => (rw [sizeLine_eq]; ((try simp only [List.length_append, List.length_cons, List.length_nil, List.length_map, List.length_replicate, List.length_set, List.length_take, List.length_drop]) <;> omega))))
  | (apply h_append 4; (case h => assumption); (case e => with_unfolding_all rfl); (case hs => (first | assumption | (apply Or.inl; assumption) | (apply Or.inr; simp))); (case z => (rw [sizeLine_eq]; ((try simp only [List.length_append, List.length_cons, List.length_nil, List.length_map, List.length_replicate, List.length_set, List.length_take, List.length_drop]) <;> omega))))
  | (apply h_appendD 0; (case h => assumption); (case e => with_unfolding_all rfl); (case hd => (first | apply Im.int | apply Im.str | apply Im.bl | apply Im.non | assumption | (apply h_imm 0; (case h => assumption); (case e => with_unfolding_all rfl)) | (apply h_imm 1; (case h => assumption); (case e => with_unfolding_all rfl)) | (apply h_imm 2; (case h => assumption); (case e => with_unfolding_all rfl)) | (apply h_imm 3; (case h => assumption); (case e => with_unfolding_all rfl)) | (apply h_imm 4; (case h => assumption); (case e => with_unfolding_all rfl)) | (apply h_imm 5; (case h => assumption); (case e => with_unfolding_all rfl)))); (case hs => (first | assumption | (apply Or.inl; assumption) | (apply Or.inr; simp))); (case z => (rw [sizeLine_eq]; ((try simp only [List.length_append, List.length_cons, List.length_nil, List.length_map, List.length_replicate, List.length_set, List.length_take, List.length_drop]) <;> omega))))
  | (apply h_appendD 1; (case h => assumption); (case e => with_unfolding_all rfl); (case hd => (first | apply Im.int | apply Im.str | apply Im.bl | apply Im.non | assumption | (apply h_imm 0; (case h => assumption); (case e => with_unfolding_all rfl)) | (apply h_imm 1; (case h => assumption); (case e => with_unfolding_all rfl)) | (apply h_imm 2; (case h => assumption); (case e => with_unfolding_all rfl)) | (apply h_imm 3; (case h => assumption); (case e => with_unfolding_all rfl)) | (apply h_imm 4; (case h => assumption); (case e => with_unfolding_all rfl)) | (apply h_imm 5; (case h => assumption); (case e => with_unfolding_all rfl)))); (case hs => (first | assumption | (apply Or.inl; assumption) | (apply Or.inr; simp))); (case z => (rw [sizeLine_eq]; ((try simp only [List.length_append, List.length_cons, List.length_nil, List.length_map, List.length_replicate, List.length_set, List.length_take, List.length_drop]) <;> omega))))
  | (apply h_appendD 2; (case h => assumption); (case e => with_unfolding_all rfl); (case hd => (first | apply Im.int | apply Im.str | apply Im.bl | apply Im.non | assumption | (apply h_imm 0; (case h => assumption); (case e => with_unfolding_all rfl)) | (apply h_imm 1; (case h => assumption); (case e => with_unfolding_all rfl)) | (apply h_imm 2; (case h => assumption); (case e => with_unfolding_all rfl)) | (apply h_imm 3; (case h => assumption); (case e => with_unfolding_all rfl)) | (apply h_imm 4; (case h => assumption); (case e => with_unfolding_all rfl)) | (apply h_imm 5; (case h => assumption); (case e => with_unfolding_all rfl)))); (case hs => (first | assumption | (apply Or.inl; assumption) | (apply Or.inr; simp))); (case z => (rw [sizeLine_eq]; ((try simp only [List.length_append, List.length_cons, List.length_nil, List.length_map, List.length_replicate, List.length_set, List.length_take, List.length_drop]) <;> omega))))
  | (apply h_appendD 3; (case h => assumption); (case e => with_unfolding_all rfl); (case hd => (first | apply Im.int | apply Im.str | apply Im.bl | apply Im.non | assumption | (apply h_imm 0; (case h => assumption); (case e => with_unfolding_all rfl)) | (apply h_imm 1; (case h => assumption); (case e => with_unfolding_all rfl)) | (apply h_imm 2; (case h => assumption); (case e => with_unfolding_all rfl)) | (apply h_imm 3; (case h => assumption); (case e => with_unfolding_all rfl)) | (apply h_imm 4; (case h => assumption); (case e => with_unfolding_all rfl)) | (apply h_imm 5; (case h => assumption); (case e => with_unfolding_all rfl)))); (case hs => (first | assumption | (apply Or.inl; assumption) | (apply Or.inr; simp))); (case z => (rw [sizeLine_eq]; ((try simp only [List.length_append, List.length_cons, List.length_nil, List.length_map, List.length_replicate, List.length_set, List.length_take, List.length_drop]) <;> omega))))
  | (apply h_appendD 4; (case h => assumption); (case e => with_unfolding_all rfl); (case hd => (first | apply Im.int | apply Im.str | apply Im.bl | apply Im.non | assumption | (apply h_imm 0; (case h => assumption); (case e => with_unfolding_all rfl)) | (apply h_imm 1; (case h => assumption); (case e => with_unfolding_all rfl)) | (apply h_imm 2; (case h => assumption); (case e => with_unfolding_all rfl)) | (apply h_imm 3; (case h => assumption); (case e => with_unfolding_all rfl)) | (apply h_imm 4; (case h => assumption); (case e => with_unfolding_all rfl)) | (apply h_imm 5; (case h => assumption); (case e => with_unfolding_all rfl)))); (case hs => (first | assumption | (apply Or.inl; assumption) | (apply Or.inr; simp))); (case z => (rw [sizeLine_eq]; ((try simp only [List.length_append, List.length_cons, List.length_nil, List.length_map, List.length_replicate, List.length_set, List.length_take, List.length_drop]) <;> omega))))
  | (apply h_tyL 0; (case h => assumption); (case e => with_unfolding_all rfl))
  | (apply h_tyL 1; (case h => assumption); (case e => with_unfolding_all rfl))
  | (apply h_tyL 2; (case h => assumption); (case e => with_unfolding_all rfl))
  | (apply h_tyL 3; (case h => assumption); (case e => with_unfolding_all rfl))
  | (apply h_tyL 4; (case h => assumption); (case e => with_unfolding_all rfl))
  | (apply h_tyD 0; (case h => assumption); (case e => with_unfolding_all rfl))
  | (apply h_tyD 1; (case h => assumption); (case e => with_unfolding_all rfl))
  | (apply h_tyD 2; (case h => assumption); (case e => with_unfolding_all rfl))
  | (apply h_tyD 3; (case h => assumption); (case e => with_unfolding_all rfl))
  | (apply h_tyD 4; (case h => assumption); (case e => with_unfolding_all rfl))
  | (apply h_tyS)
  | (apply h_lenL 0; (case h => assumption); (case e => with_unfolding_all rfl))
  | (apply h_lenL 1; (case h => assumption); (case e => with_unfolding_all rfl))
  | (apply h_lenL 2; (case h => assumption); (case e => with_unfolding_all rfl))
  | (apply h_lenL 3; (case h => assumption); (case e => with_unfolding_all rfl))
  | (apply h_lenL 4; (case h => assumption); (case e => with_unfolding_all rfl))
  | (apply h_lenD 0; (case h => assumption); (case e => with_unfolding_all rfl))
  | (apply h_lenD 1; (case h => assumption); (case e => with_unfolding_all rfl))
  | (apply h_lenD 2; (case h => assumption); (case e => with_unfolding_all rfl))
  | (apply h_lenD 3; (case h => assumption); (case e => with_unfolding_all rfl))
  | (apply h_lenD 4; (case h => assumption); (case e => with_unfolding_all rfl))
  | (apply h_setL 0; (case h => assumption); (case e => with_unfolding_all rfl); (case hs => (first | assumption | (apply Or.inl; assumption) | (apply Or.inr; simp))); (case hi => with_unfolding_all rfl))
  | (apply h_setL 1; (case h => assumption); (case e => with_unfolding_all rfl); (case hs => (first | assumption | (apply Or.inl; assumption) | (apply Or.inr; simp))); (case hi => with_unfolding_all rfl))
  | (apply h_setL 2; (case h => assumption); (case e => with_unfolding_all rfl); (case hs => (first | assumption | (apply Or.inl; assumption) | (apply Or.inr; simp))); (case hi => with_unfolding_all rfl))
  | (apply h_setL 3; (case h => assumption); (case e => with_unfolding_all rfl); (case hs => (first | assumption | (apply Or.inl; assumption) | (apply Or.inr; simp))); (case hi => with_unfolding_all rfl))
  | (apply h_setL 4; (case h => assumption); (case e => with_unfolding_all rfl); (case hs => (first | assumption | (apply Or.inl; assumption) | (apply Or.inr; simp))); (case hi => with_unfolding_all rfl))
  | (apply h_isLn 0; (case h => assumption); (case e => with_unfolding_all rfl))
  | (apply h_isLn 1; (case h => assumption); (case e => with_unfolding_all rfl))
  | (apply h_isLn 2; (case h => assumption); (case e => with_unfolding_all rfl))
  | (apply h_isLn 3; (case h => assumption); (case e => with_unfolding_all rfl))
  | (apply h_isLn 4; (case h => assumption); (case e => with_unfolding_all rfl))
  | (apply h_isLd 0; (case h => assumption); (case e => with_unfolding_all rfl))
  | (apply h_isLd 1; (case h => assumption); (case e => with_unfolding_all rfl))
  | (apply h_isLd 2; (case h => assumption); (case e => with_unfolding_all rfl))
  | (apply h_isLd 3; (case h => assumption); (case e => with_unfolding_all rfl))
  | (apply h_isLd 4; (case h => assumption); (case e => with_unfolding_all rfl))
  | (apply h_isT; (case h => (first | apply Im.int | apply Im.str | apply Im.bl | apply Im.non | assumption | (apply h_imm 0; (case h => assumption); (case e => with_unfolding_all rfl)) | (apply h_imm 1; (case h => assumption); (case e => with_unfolding_all rfl)) | (apply h_imm 2; (case h => assumption); (case e => with_unfolding_all rfl)) | (apply h_imm 3; (case h => assumption); (case e => with_unfolding_all rfl)) | (apply h_imm 4; (case h => assumption); (case e => with_unfolding_all rfl)) | (apply h_imm 5; (case h => assumption); (case e => with_unfolding_all rfl)))))
  | (apply h_tupOf 0; (case h => assumption); (case e => with_unfolding_all rfl))
  | (apply h_tupOf 1; (case h => assumption); (case e => with_unfolding_all rfl))
  | (apply h_tupOf 2; (case h => assumption); (case e => with_unfolding_all rfl))
  | (apply h_tupOf 3; (case h => assumption); (case e => with_unfolding_all rfl))
  | (apply h_tupOf 4; (case h => assumption); (case e => with_unfolding_all rfl))
  | (apply h_listOf 0; (case h => assumption); (case e => with_unfolding_all rfl))
  | (apply h_listOf 1; (case h => assumption); (case e => with_unfolding_all rfl))
  | (apply h_listOf 2; (case h => assumption); (case e => with_unfolding_all rfl))
  | (apply h_listOf 3; (case h => assumption); (case e => with_unfolding_all rfl))
  | (apply h_listOf 4; (case h => assumption); (case e => with_unfolding_all rfl))
  | (apply h_lst; (case h => assumption); (case z => (rw [sizeLine_eq]; ((try simp only [List.length_append, List.length_cons, List.length_nil, List.length_map, List.length_replicate, List.length_set, List.length_take, List.length_drop]) <;> omega))))
  | (apply h_tup; (case h => assumption); (case z => (rw [sizeLine_eq]; ((try simp only [List.length_append, List.length_cons, List.length_nil, List.length_map, List.length_replicate, List.length_set, List.length_take, List.length_drop]) <;> omega))); (case hd => repeat (first | apply Ims.nil | (apply Ims.cons; (focus (first | apply Im.int | apply Im.str | apply Im.bl | apply Im.non | assumption | (apply h_imm 0; (case h => assumption); (case e => with_unfolding_all rfl)) | (apply h_imm 1; (case h => assumption); (case e => with_unfolding_all rfl)) | (apply h_imm 2; (case h => assumption); (case e => with_unfolding_all rfl)) | (apply h_imm 3; (case h => assumption); (case e => with_unfolding_all rfl)) | (apply h_imm 4; (case h => assumption); (case e => with_unfolding_all rfl)) | (apply h_imm 5; (case h => assumption); (case e => with_unfolding_all rfl))))))))
  | (apply And.intro; (case left => (first | decide | omega | (simp only [List.length_map, List.length_append, List.length_take, List.length_drop, List.length_set]; omega))))
  | (apply h_mr; (case h1 => (first | decide | omega | (simp only [List.length_map, List.length_append, List.length_take, List.length_drop, List.length_set]; omega))); (case h2 => (first | decide | omega | (simp only [List.length_map, List.length_append, List.length_take, List.length_drop, List.length_set]; omega))))
  | (apply h_ml; (case h1 => (first | decide | omega | (simp only [List.length_map, List.length_append, List.length_take, List.length_drop, List.length_set]; omega))); (case h2 => (first | decide | omega | (simp only [List.length_map, List.length_append, List.length_take, List.length_drop, List.length_set]; omega))))
  | (apply h_dv; (case h1 => (first | decide | omega | (simp only [List.length_map, List.length_append, List.length_take, List.length_drop, List.length_set]; omega))); (case h2 => (first | decide | omega | (simp only [List.length_map, List.length_append, List.length_take, List.length_drop, List.length_set]; omega))))
  | (apply h_pw; (case h1 => (first | decide | omega | (simp only [List.length_map, List.length_append, List.length_take, List.length_drop, List.length_set]; omega))); (case h2 => (first | decide | omega | (simp only [List.length_map, List.length_append, List.length_take, List.length_drop, List.length_set]; omega))); (case h3 => decide))
  | (apply And.intro; (case left => (rw [sizeLine_eq]; ((try simp only [List.length_append, List.length_cons, List.length_nil, List.length_map, List.length_replicate, List.length_set, List.length_take, List.length_drop]) <;> omega))))
  | (apply h_wnum 0; (case h => assumption); (case e => with_unfolding_all rfl); (case h0 => (first | decide | omega | (simp only [List.length_map, List.length_append, List.length_take, List.length_drop, List.length_set]; omega))); (case h1 => (first | decide | omega | (simp only [List.length_map, List.length_append, List.length_take, List.length_drop, List.length_set]; omega))); (case h2 => (first | decide | omega | (simp only [List.length_map, List.length_append, List.length_take, List.length_drop, List.length_set]; omega))); (case h3 => (first | decide | omega | (simp only [List.length_map, List.length_append, List.length_take, List.length_drop, List.length_set]; omega))))
  | (apply h_wnum 1; (case h => assumption); (case e => with_unfolding_all rfl); (case h0 => (first | decide | omega | (simp only [List.length_map, List.length_append, List.length_take, List.length_drop, List.length_set]; omega))); (case h1 => (first | decide | omega | (simp only [List.length_map, List.length_append, List.length_take, List.length_drop, List.length_set]; omega))); (case h2 => (first | decide | omega | (simp only [List.length_map, List.length_append, List.length_take, List.length_drop, List.length_set]; omega))); (case h3 => (first | decide | omega | (simp only [List.length_map, List.length_append, List.length_take, List.length_drop, List.length_set]; omega))))
  | (apply h_wnum 2; (case h => assumption); (case e => with_unfolding_all rfl); (case h0 => (first | decide | omega | (simp only [List.length_map, List.length_append, List.length_take, List.length_drop, List.length_set]; omega))); (case h1 => (first | decide | omega | (simp only [List.length_map, List.length_append, List.length_take, List.length_drop, List.length_set]; omega))); (case h2 => (first | decide | omega | (simp only [List.length_map, List.length_append, List.length_take, List.length_drop, List.length_set]; omega))); (case h3 => (first | decide | omega | (simp only [List.length_map, List.length_append, List.length_take, List.length_drop, List.length_set]; omega))))
  | (apply h_rdword 0; (case h => assumption); (case e => with_unfolding_all rfl); (case h0 => (first | decide | omega | (simp only [List.length_map, List.length_append, List.length_take, List.length_drop, List.length_set]; omega))); (case h1 => (first | decide | omega | (simp only [List.length_map, List.length_append, List.length_take, List.length_drop, List.length_set]; omega))); (case h2 => (first | decide | omega | (simp only [List.length_map, List.length_append, List.length_take, List.length_drop, List.length_set]; omega))); (case h3 => (first | decide | omega | (simp only [List.length_map, List.length_append, List.length_take, List.length_drop, List.length_set]; omega))))
  | (apply h_rdword 1; (case h => assumption); (case e => with_unfolding_all rfl); (case h0 => (first | decide | omega | (simp only [List.length_map, List.length_append, List.length_take, List.length_drop, List.length_set]; omega))); (case h1 => (first | decide | omega | (simp only [List.length_map, List.length_append, List.length_take, List.length_drop, List.length_set]; omega))); (case h2 => (first | decide | omega | (simp only [List.length_map, List.length_append, List.length_take, List.length_drop, List.length_set]; omega))); (case h3 => (first | decide | omega | (simp only [List.length_map, List.length_append, List.length_take, List.length_drop, List.length_set]; omega))))
  | (apply h_rdword 2; (case h => assumption); (case e => with_unfolding_all rfl); (case h0 => (first | decide | omega | (simp only [List.length_map, List.length_append, List.length_take, List.length_drop, List.length_set]; omega))); (case h1 => (first | decide | omega | (simp only [List.length_map, List.length_append, List.length_take, List.length_drop, List.length_set]; omega))); (case h2 => (first | decide | omega | (simp only [List.length_map, List.length_append, List.length_take, List.length_drop, List.length_set]; omega))); (case h3 => (first | decide | omega | (simp only [List.length_map, List.length_append, List.length_take, List.length_drop, List.length_set]; omega))))
  | (apply h_rslot 0; (case h => assumption); (case e => with_unfolding_all rfl); (case h0 => (first | decide | omega | (simp only [List.length_map, List.length_append, List.length_take, List.length_drop, List.length_set]; omega))); (case h1 => (first | decide | omega | (simp only [List.length_map, List.length_append, List.length_take, List.length_drop, List.length_set]; omega))); (case h2 => (first | decide | omega | (simp only [List.length_map, List.length_append, List.length_take, List.length_drop, List.length_set]; omega))); (case h3 => (first | decide | omega | (simp only [List.length_map, List.length_append, List.length_take, List.length_drop, List.length_set]; omega))); (case h4 => (first | decide | omega | (simp only [List.length_map, List.length_append, List.length_take, List.length_drop, List.length_set]; omega))); (case h5 => (first | decide | omega | (simp only [List.length_map, List.length_append, List.length_take, List.length_drop, List.length_set]; omega))); (case h6 => (first | decide | omega | (simp only [List.length_map, List.length_append, List.length_take, List.length_drop, List.length_set]; omega))); (case h7 => (first | decide | omega | (simp only [List.length_map, List.length_append, List.length_take, List.length_drop, List.length_set]; omega))))
  | (apply h_rslot 1; (case h => assumption); (case e => with_unfolding_all rfl); (case h0 => (first | decide | omega | (simp only [List.length_map, List.length_append, List.length_take, List.length_drop, List.length_set]; omega))); (case h1 => (first | decide | omega | (simp only [List.length_map, List.length_append, List.length_take, List.length_drop, List.length_set]; omega))); (case h2 => (first | decide | omega | (simp only [List.length_map, List.length_append, List.length_take, List.length_drop, List.length_set]; omega))); (case h3 => (first | decide | omega | (simp only [List.length_map, List.length_append, List.length_take, List.length_drop, List.length_set]; omega))); (case h4 => (first | decide | omega | (simp only [List.length_map, List.length_append, List.length_take, List.length_drop, List.length_set]; omega))); (case h5 => (first | decide | omega | (simp only [List.length_map, List.length_append, List.length_take, List.length_drop, List.length_set]; omega))); (case h6 => (first | decide | omega | (simp only [List.length_map, List.length_append, List.length_take, List.length_drop, List.length_set]; omega))); (case h7 => (first | decide | omega | (simp only [List.length_map, List.length_append, List.length_take, List.length_drop, List.length_set]; omega))))
  | (apply h_rslot 2; (case h => assumption); (case e => with_unfolding_all rfl); (case h0 => (first | decide | omega | (simp only [List.length_map, List.length_append, List.length_take, List.length_drop, List.length_set]; omega))); (case h1 => (first | decide | omega | (simp only [List.length_map, List.length_append, List.length_take, List.length_drop, List.length_set]; omega))); (case h2 => (first | decide | omega | (simp only [List.length_map, List.length_append, List.length_take, List.length_drop, List.length_set]; omega))); (case h3 => (first | decide | omega | (simp only [List.length_map, List.length_append, List.length_take, List.length_drop, List.length_set]; omega))); (case h4 => (first | decide | omega | (simp only [List.length_map, List.length_append, List.length_take, List.length_drop, List.length_set]; omega))); (case h5 => (first | decide | omega | (simp only [List.length_map, List.length_append, List.length_take, List.length_drop, List.length_set]; omega))); (case h6 => (first | decide | omega | (simp only [List.length_map, List.length_append, List.length_take, List.length_drop, List.length_set]; omega))); (case h7 => (first | decide | omega | (simp only [List.length_map, List.length_append, List.length_take, List.length_drop, List.length_set]; omega))))
  | (apply h_put 0; (case h => assumption); (case e => with_unfolding_all rfl); (case h0 => (first | decide | omega | (simp only [List.length_map, List.length_append, List.length_take, List.length_drop, List.length_set]; omega))); (case h1 => (first | decide | omega | (simp only [List.length_map, List.length_append, List.length_take, List.length_drop, List.length_set]; omega))); (case h2 => (first | decide | omega | (simp only [List.length_map, List.length_append, List.length_take, List.length_drop, List.length_set]; omega))); (case h3 => (first | decide | omega | (simp only [List.length_map, List.length_append, List.length_take, List.length_drop, List.length_set]; omega))); (case hs => (first | assumption | (apply Or.inl; assumption) | (apply Or.inr; simp))))
  | (apply h_put 1; (case h => assumption); (case e => with_unfolding_all rfl); (case h0 => (first | decide | omega | (simp only [List.length_map, List.length_append, List.length_take, List.length_drop, List.length_set]; omega))); (case h1 => (first | decide | omega | (simp only [List.length_map, List.length_append, List.length_take, List.length_drop, List.length_set]; omega))); (case h2 => (first | decide | omega | (simp only [List.length_map, List.length_append, List.length_take, List.length_drop, List.length_set]; omega))); (case h3 => (first | decide | omega | (simp only [List.length_map, List.length_append, List.length_take, List.length_drop, List.length_set]; omega))); (case hs => (first | assumption | (apply Or.inl; assumption) | (apply Or.inr; simp))))
  | (apply h_put 2; (case h => assumption); (case e => with_unfolding_all rfl); (case h0 => (first | decide | omega | (simp only [List.length_map, List.length_append, List.length_take, List.length_drop, List.length_set]; omega))); (case h1 => (first | decide | omega | (simp only [List.length_map, List.length_append, List.length_take, List.length_drop, List.length_set]; omega))); (case h2 => (first | decide | omega | (simp only [List.length_map, List.length_append, List.length_take, List.length_drop, List.length_set]; omega))); (case h3 => (first | decide | omega | (simp only [List.length_map, List.length_append, List.length_take, List.length_drop, List.length_set]; omega))); (case hs => (first | assumption | (apply Or.inl; assumption) | (apply Or.inr; simp))))
  | (apply h_wrword 0; (case h => assumption); (case e => with_unfolding_all rfl); (case h0 => (first | decide | omega | (simp only [List.length_map, List.length_append, List.length_take, List.length_drop, List.length_set]; omega))); (case h1 => (first | decide | omega | (simp only [List.length_map, List.length_append, List.length_take, List.length_drop, List.length_set]; omega))); (case h2 => (first | decide | omega | (simp only [List.length_map, List.length_append, List.length_take, List.length_drop, List.length_set]; omega))); (case h3 => (first | decide | omega | (simp only [List.length_map, List.length_append, List.length_take, List.length_drop, List.length_set]; omega))); (case hs => (first | assumption | (apply Or.inl; assumption) | (apply Or.inr; simp))))
  | (apply h_wrword 1; (case h => assumption); (case e => with_unfolding_all rfl); (case h0 => (first | decide | omega | (simp only [List.length_map, List.length_append, List.length_take, List.length_drop, List.length_set]; omega))); (case h1 => (first | decide | omega | (simp only [List.length_map, List.length_append, List.length_take, List.length_drop, List.length_set]; omega))); (case h2 => (first | decide | omega | (simp only [List.length_map, List.length_append, List.length_take, List.length_drop, List.length_set]; omega))); (case h3 => (first | decide | omega | (simp only [List.length_map, List.length_append, List.length_take, List.length_drop, List.length_set]; omega))); (case hs => (first | assumption | (apply Or.inl; assumption) | (apply Or.inr; simp))))
  | (apply h_wrword 2; (case h => assumption); (case e => with_unfolding_all rfl); (case h0 => (first | decide | omega | (simp only [List.length_map, List.length_append, List.length_take, List.length_drop, List.length_set]; omega))); (case h1 => (first | decide | omega | (simp only [List.length_map, List.length_append, List.length_take, List.length_drop, List.length_set]; omega))); (case h2 => (first | decide | omega | (simp only [List.length_map, List.length_append, List.length_take, List.length_drop, List.length_set]; omega))); (case h3 => (first | decide | omega | (simp only [List.length_map, List.length_append, List.length_take, List.length_drop, List.length_set]; omega))); (case hs => (first | assumption | (apply Or.inl; assumption) | (apply Or.inr; simp))))
  | (apply h_power; (case h0 => (first | decide | omega | (simp only [List.length_map, List.length_append, List.length_take, List.length_drop, List.length_set]; omega))); (case h1 => (first | decide | omega | (simp only [List.length_map, List.length_append, List.length_take, List.length_drop, List.length_set]; omega))))
  | (apply h_bounds; (case h => assumption); (case h0 => (first | decide | omega | (simp only [List.length_map, List.length_append, List.length_take, List.length_drop, List.length_set]; omega))); (case h1 => (first | decide | omega | (simp only [List.length_map, List.length_append, List.length_take, List.length_drop, List.length_set]; omega))))
  | (apply h_sl2 0; (case h => assumption); (case e => with_unfolding_all rfl); (case hi => (first | decide | omega | (simp only [List.length_map, List.length_append, List.length_take, List.length_drop, List.length_set]; omega))); (case hj => (first | decide | omega | (simp only [List.length_map, List.length_append, List.length_take, List.length_drop, List.length_set]; omega))))
  | (apply h_sl2 1; (case h => assumption); (case e => with_unfolding_all rfl); (case hi => (first | decide | omega | (simp only [List.length_map, List.length_append, List.length_take, List.length_drop, List.length_set]; omega))); (case hj => (first | decide | omega | (simp only [List.length_map, List.length_append, List.length_take, List.length_drop, List.length_set]; omega))))
  | (apply h_sl2 2; (case h => assumption); (case e => with_unfolding_all rfl); (case hi => (first | decide | omega | (simp only [List.length_map, List.length_append, List.length_take, List.length_drop, List.length_set]; omega))); (case hj => (first | decide | omega | (simp only [List.length_map, List.length_append, List.length_take, List.length_drop, List.length_set]; omega))))
  | (apply h_slp 0; (case h => assumption); (case e => with_unfolding_all rfl); (case hj => (first | decide | omega | (simp only [List.length_map, List.length_append, List.length_take, List.length_drop, List.length_set]; omega))))
  | (apply h_slp 1; (case h => assumption); (case e => with_unfolding_all rfl); (case hj => (first | decide | omega | (simp only [List.length_map, List.length_append, List.length_take, List.length_drop, List.length_set]; omega))))
  | (apply h_slp 2; (case h => assumption); (case e => with_unfolding_all rfl); (case hj => (first | decide | omega | (simp only [List.length_map, List.length_append, List.length_take, List.length_drop, List.length_set]; omega))))
  | (apply h_sls 0; (case h => assumption); (case e => with_unfolding_all rfl); (case hi => (first | decide | omega | (simp only [List.length_map, List.length_append, List.length_take, List.length_drop, List.length_set]; omega))))
  | (apply h_sls 1; (case h => assumption); (case e => with_unfolding_all rfl); (case hi => (first | decide | omega | (simp only [List.length_map, List.length_append, List.length_take, List.length_drop, List.length_set]; omega))))
  | (apply h_sls 2; (case h => assumption); (case e => with_unfolding_all rfl); (case hi => (first | decide | omega | (simp only [List.length_map, List.length_append, List.length_take, List.length_drop, List.length_set]; omega))))
  | (apply h_rev 0; (case h => assumption); (case e => with_unfolding_all rfl))
  | (apply h_rev 1; (case h => assumption); (case e => with_unfolding_all rfl))
  | (apply h_rev 2; (case h => assumption); (case e => with_unfolding_all rfl))
  | (apply h_reverse 0; (case h => assumption); (case e => with_unfolding_all rfl); (case hs => (first | assumption | (apply Or.inl; assumption) | (apply Or.inr; simp))))
  | (apply h_reverse 1; (case h => assumption); (case e => with_unfolding_all rfl); (case hs => (first | assumption | (apply Or.inl; assumption) | (apply Or.inr; simp))))
  | (apply h_reverse 2; (case h => assumption); (case e => with_unfolding_all rfl); (case hs => (first | assumption | (apply Or.inl; assumption) | (apply Or.inr; simp))))
  | (apply h_rslot 0; (case h => assumption); (case e => with_unfolding_all rfl); (case h0 => (first | decide | omega | (simp only [List.length_map, List.length_append, List.length_take, List.length_drop, List.length_set]; omega))); (case h1 => (first | decide | omega | (simp only [List.length_map, List.length_append, List.length_take, List.length_drop, List.length_set]; omega))); (case h2 => (first | decide | omega | (simp only [List.length_map, List.length_append, List.length_take, List.length_drop, List.length_set]; omega))); (case h3 => (first | decide | omega | (simp only [List.length_map, List.length_append, List.length_take, List.length_drop, List.length_set]; omega))); (case h4 => (first | decide | omega | (simp only [List.length_map, List.length_append, List.length_take, List.length_drop, List.length_set]; omega))); (case h5 => (first | decide | omega | (simp only [List.length_map, List.length_append, List.length_take, List.length_drop, List.length_set]; omega))); (case h6 => (first | decide | omega | (simp only [List.length_map, List.length_append, List.length_take, List.length_drop, List.length_set]; omega))); (case h7 => (first | decide | omega | (simp only [List.length_map, List.length_append, List.length_take, List.length_drop, List.length_set]; omega))))
  | (apply h_rslot 1; (case h => assumption); (case e => with_unfolding_all rfl); (case h0 => (first | decide | omega | (simp only [List.length_map, List.length_append, List.length_take, List.length_drop, List.length_set]; omega))); (case h1 => (first | decide | omega | (simp only [List.length_map, List.length_append, List.length_take, List.length_drop, List.length_set]; omega))); (case h2 => (first | decide | omega | (simp only [List.length_map, List.length_append, List.length_take, List.length_drop, List.length_set]; omega))); (case h3 => (first | decide | omega | (simp only [List.length_map, List.length_append, List.length_take, List.length_drop, List.length_set]; omega))); (case h4 => (first | decide | omega | (simp only [List.length_map, List.length_append, List.length_take, List.length_drop, List.length_set]; omega))); (case h5 => (first | decide | omega | (simp only [List.length_map, List.length_append, List.length_take, List.length_drop, List.length_set]; omega))); (case h6 => (first | decide | omega | (simp only [List.length_map, List.length_append, List.length_take, List.length_drop, List.length_set]; omega))); (case h7 => (first | decide | omega | (simp only [List.length_map, List.length_append, List.length_take, List.length_drop, List.length_set]; omega))))
  | (apply h_rslot 2; (case h => assumption); (case e => with_unfolding_all rfl); (case h0 => (first | decide | omega | (simp only [List.length_map, List.length_append, List.length_take, List.length_drop, List.length_set]; omega))); (case h1 => (first | decide | omega | (simp only [List.length_map, List.length_append, List.length_take, List.length_drop, List.length_set]; omega))); (case h2 => (first | decide | omega | (simp only [List.length_map, List.length_append, List.length_take, List.length_drop, List.length_set]; omega))); (case h3 => (first | decide | omega | (simp only [List.length_map, List.length_append, List.length_take, List.length_drop, List.length_set]; omega))); (case h4 => (first | decide | omega | (simp only [List.length_map, List.length_append, List.length_take, List.length_drop, List.length_set]; omega))); (case h5 => (first | decide | omega | (simp only [List.length_map, List.length_append, List.length_take, List.length_drop, List.length_set]; omega))); (case h6 => (first | decide | omega | (simp only [List.length_map, List.length_append, List.length_take, List.length_drop, List.length_set]; omega))); (case h7 => (first | decide | omega | (simp only [List.length_map, List.length_append, List.length_take, List.length_drop, List.length_set]; omega))))
  | (apply h_rslot 3; (case h => assumption); (case e => with_unfolding_all rfl); (case h0 => (first | decide | omega | (simp only [List.length_map, List.length_append, List.length_take, List.length_drop, List.length_set]; omega))); (case h1 => (first | decide | omega | (simp only [List.length_map, List.length_append, List.length_take, List.length_drop, List.length_set]; omega))); (case h2 => (first | decide | omega | (simp only [List.length_map, List.length_append, List.length_take, List.length_drop, List.length_set]; omega))); (case h3 => (first | decide | omega | (simp only [List.length_map, List.length_append, List.length_take, List.length_drop, List.length_set]; omega))); (case h4 => (first | decide | omega | (simp only [List.length_map, List.length_append, List.length_take, List.length_drop, List.length_set]; omega))); (case h5 => (first | decide | omega | (simp only [List.length_map, List.length_append, List.length_take, List.length_drop, List.length_set]; omega))); (case h6 => (first | decide | omega | (simp only [List.length_map, List.length_append, List.length_take, List.length_drop, List.length_set]; omega))); (case h7 => (first | decide | omega | (simp only [List.length_map, List.length_append, List.length_take, List.length_drop, List.length_set]; omega))))
  | (apply h_rep 0; (case h => assumption); (case e => with_unfolding_all rfl); (case h0 => (first | decide | omega | (simp only [List.length_map, List.length_append, List.length_take, List.length_drop, List.length_set]; omega))); (case h1 => (first | decide | omega | (simp only [List.length_map, List.length_append, List.length_take, List.length_drop, List.length_set]; omega))))
  | (apply h_rep 1; (case h => assumption); (case e => with_unfolding_all rfl); (case h0 => (first | decide | omega | (simp only [List.length_map, List.length_append, List.length_take, List.length_drop, List.length_set]; omega))); (case h1 => (first | decide | omega | (simp only [List.length_map, List.length_append, List.length_take, List.length_drop, List.length_set]; omega))))
  | (apply h_rep 2; (case h => assumption); (case e => with_unfolding_all rfl); (case h0 => (first | decide | omega | (simp only [List.length_map, List.length_append, List.length_take, List.length_drop, List.length_set]; omega))); (case h1 => (first | decide | omega | (simp only [List.length_map, List.length_append, List.length_take, List.length_drop, List.length_set]; omega))))
  | (apply h_rdword 3; (case h => assumption); (case e => with_unfolding_all rfl); (case h0 => (first | decide | omega | (simp only [List.length_map, List.length_append, List.length_take, List.length_drop, List.length_set]; omega))); (case h1 => (first | decide | omega | (simp only [List.length_map, List.length_append, List.length_take, List.length_drop, List.length_set]; omega))); (case h2 => (first | decide | omega | (simp only [List.length_map, List.length_append, List.length_take, List.length_drop, List.length_set]; omega))); (case h3 => (first | decide | omega | (simp only [List.length_map, List.length_append, List.length_take, List.length_drop, List.length_set]; omega))))
  | (apply h_rdword 4; (case h => assumption); (case e => with_unfolding_all rfl); (case h0 => (first | decide | omega | (simp only [List.length_map, List.length_append, List.length_take, List.length_drop, List.length_set]; omega))); (case h1 => (first | decide | omega | (simp only [List.length_map, List.length_append, List.length_take, List.length_drop, List.length_set]; omega))); (case h2 => (first | decide | omega | (simp only [List.length_map, List.length_append, List.length_take, List.length_drop, List.length_set]; omega))); (case h3 => (first | decide | omega | (simp only [List.length_map, List.length_append, List.length_take, List.length_drop, List.length_set]; omega))))
  | (apply h_rdword 5; (case h => assumption); (case e => with_unfolding_all rfl); (case h0 => (first | decide | omega | (simp only [List.length_map, List.length_append, List.length_take, List.length_drop, List.length_set]; omega))); (case h1 => (first | decide | omega | (simp only [List.length_map, List.length_append, List.length_take, List.length_drop, List.length_set]; omega))); (case h2 => (first | decide | omega | (simp only [List.length_map, List.length_append, List.length_take, List.length_drop, List.length_set]; omega))); (case h3 => (first | decide | omega | (simp only [List.length_map, List.length_append, List.length_take, List.length_drop, List.length_set]; omega))))
  | (apply h_slp 3; (case h => assumption); (case e => with_unfolding_all rfl); (case hj => (first | decide | omega | (simp only [List.length_map, List.length_append, List.length_take, List.length_drop, List.length_set]; omega))))
  | (apply h_slp 4; (case h => assumption); (case e => with_unfolding_all rfl); (case hj => (first | decide | omega | (simp only [List.length_map, List.length_append, List.length_take, List.length_drop, List.length_set]; omega))))
  | (apply h_slp 5; (case h => assumption); (case e => with_unfolding_all rfl); (case hj => (first | decide | omega | (simp only [List.length_map, List.length_append, List.length_take, List.length_drop, List.length_set]; omega))))
  | (apply h_sls 3; (case h => assumption); (case e => with_unfolding_all rfl); (case hi => (first | decide | omega | (simp only [List.length_map, List.length_append, List.length_take, List.length_drop, List.length_set]; omega))))
  | (apply h_sls 4; (case h => assumption); (case e => with_unfolding_all rfl); (case hi => (first | decide | omega | (simp only [List.length_map, List.length_append, List.length_take, List.length_drop, List.length_set]; omega))))
  | (apply h_sls 5; (case h => assumption); (case e => with_unfolding_all rfl); (case hi => (first | decide | omega | (simp only [List.length_map, List.length_append, List.length_take, List.length_drop, List.length_set]; omega))))
  | (apply h_bitsof; (case h => assumption); (case h0 => (first | decide | omega | (simp only [List.length_map, List.length_append, List.length_take, List.length_drop, List.length_set]; omega))); (case h1 => (first | decide | omega | (simp only [List.length_map, List.length_append, List.length_take, List.length_drop, List.length_set]; omega))))) | with_reducible intro))

theorem p2_32 {w : Nat} (h : w ≤ 32) : (2 : Int) ^ w ≤ 4294967296 := p2_le (a := w) (b := 32) h
theorem sgn_rng {w : Nat} {s : Bool} {z : Int} (h : w ≤ 32) (h0 : 0 ≤ z) (h1 : z < 2 ^ w) : (sgn w s z).natAbs < 10 ^ 12 := by
  have h2 := p2_32 h
  unfold sgn
  split <;> omega
def ofN (l : List Nat) : List Int := l.map fun n : Nat => (n : Int)
theorem ofN_snoc (l : List Nat) (n : Nat) : ofN l ++ [(n : Int)] = ofN (l ++ [n]) := by unfold ofN; rw [List.map_append]; rfl
theorem ofN_mem {l : List Nat} {n : Nat} : ((n : Int) ∈ ofN l) ↔ n ∈ l := by
  unfold ofN
  rw [List.mem_map]
  constructor
  · rintro ⟨m, hm, e⟩
    rw [show m = n by omega] at hm
    exact hm
  · intro h
    exact ⟨n, h, rfl⟩
theorem flat_len {l : List Sl} (h : ∀ x ∈ l, SlOk 16 x) : (l.flatMap ps).length ≤ 32 * l.length := by
  induction l with
  | nil => exact Nat.zero_le _
  | cons x l ih =>
    have h1 := (h x List.mem_cons_self).fw
    have h2 := (h x List.mem_cons_self).n4
    have h3 := ih fun y hy => h y (List.mem_cons_of_mem _ hy)
    rw [List.flatMap_cons, List.length_append, List.length_cons]
    have e : (ps x).length = x.w := by unfold ps; rw [List.length_map, List.length_range]
    omega
theorem ps_snoc {x : Sl} {j : Nat} (h : j < x.w) : (ps x).take (j + 1) = (ps x).take j ++ [pos x (x.f + j)] := by
  unfold ps
  rw [List.take_add_one, List.getElem?_map, List.getElem?_range h]
  rfl
theorem flat_snocS {l : List Sl} {i : Nat} {x : Sl} (h : l[i]? = some x) : (l.take (i + 1)).flatMap ps = (l.take i).flatMap ps ++ ps x := by
  rw [List.take_add_one, h, List.flatMap_append]
  simp
def freeT (ds : List Int) (tk : List Nat) (k : Nat) : List Int := ((List.range k).filter fun p => !decide (p ∈ tk)).map (bitB ds)
theorem freeT_in {ds : List Int} {tk : List Nat} {k : Nat} (h : k ∈ tk) : freeT ds tk (k + 1) = freeT ds tk k := by
  unfold freeT
  rw [List.range_succ, List.filter_append]
  simp [h]
theorem freeT_out {ds : List Int} {tk : List Nat} {k : Nat} (h : ¬ k ∈ tk) : freeT ds tk (k + 1) = freeT ds tk k ++ [bitB ds k] := by
  unfold freeT
  rw [List.range_succ, List.filter_append]
  simp [h]
theorem freeT_len (ds : List Int) (tk : List Nat) (k : Nat) : (freeT ds tk k).length ≤ k := by
  unfold freeT
  rw [List.length_map]
  exact Nat.le_trans (List.length_filter_le _ _) (by rw [List.length_range]; exact Nat.le_refl _)
def t__law_list_is (K : PySem.W.Frag) (A : Ad) : TS :=
  (tRet (mAndV (tCB (rIsi K) (tCons (mV 0) (tCons (tC (.ty "list")) tNil))) (tOp (mEq K) (tCB (hRepr K) (tCons (mV 0) tNil)) (tCB (hRepr K) (tCons (tCB (hListOf K) (tCons (mV 1) tNil)) tNil)))))
theorem rd__law_list_is {K : PySem.W.Frag} {A : Ad} {vs : List V} {H : Hp} {Q : VK} {E : XK} (h : sp__law_list_is K A vs H Q E) : t__law_list_is K A { nx := fun _ H' => Q .non H', rt := Q } (start ["_law_actual", "_law_due"] vs) H := by
  obtain ⟨a, b, ns, rfl, ha, hb, hab, hl, hn, k⟩ := h
  show t__law_list_is K A _ [some (.ref a), some (.ref b)] H
  unfold t__law_list_is
  have hL : Led K H [] H [(a, .raw (.lst (ns.map V.int))), (b, .raw (.lst (ns.map V.int)))] [] := Led.mk2 ha hb hab
  have sw : shw 1 ((ns.map PyData.int).length * 42) (.list (ns.map PyData.int)) := shw_list (n := 0) (W := 41) fun d hd => by
    obtain ⟨z, hz, rfl⟩ := List.mem_map.mp hd
    exact shw_int (hn z hz)
  have wl : (ns.map PyData.int).length * 42 ≤ 2 ^ 20 := by rw [List.length_map]; omega
  walk_at "gs"
  refine h_isiL 0 hL rfl ?_
  walk_at "gs"
  refine h_repr (hL.dpI 0 rfl) sw ?_ (by decide) wl
  walk_at "gs"
  rename_i p H1 np h1
  refine h_repr (h1.dpI 0 rfl) sw ?_ (by decide) wl
  walk_at "gs"
  rw [decide_eq_true rfl]
  exact k H1 (KBs.same h1.kp)
def t__law_slots (K : PySem.W.Frag) (A : Ad) : TS :=
  (tSeq (tAsg (tLst tNil) (gName 1))
  (tSeq (tAsg (tC (.int 0)) (gName 2))
  (tSeq (tFor (jR1 (tCons (tC (.int 4)) tNil)) (gName 3)
    (tSeq (tAsg (tOp (rIx K) (tLst (tCons (tC (.int 1)) (tCons (tC (.int 2)) (tCons (tC (.int 4)) tNil)))) (tCall (sp__law_draw K A) [] E0 (tCons (mV 0) (tCons (tC (.int 3)) tNil)))) (gName 4))
  (tSeq (tAsg (tOp (mEq K) (tCall (sp__law_draw K A) [] E0 (tCons (mV 0) (tCons (tC (.int 2)) tNil))) (tC (.int 0))) (gName 5))
  (tSeq (tAsg (tCall (sp__law_draw K A) [] E0 (tCons (mV 0) (tCons (tC (.int 4)) tNil))) (gName 6))
  (tSeq (tFor (jR1 (tCons (tOp (mAdd K) (tC (.int 1)) (tCall (sp__law_draw K A) [] E0 (tCons (mV 0) (tCons (tC (.int 3)) tNil)))) tNil)) (gName 7)
    (tSeq (tAsg (tOp (mAdd K) (tC (.int 1)) (tCall (sp__law_draw K A) [] E0 (tCons (mV 0) (tCons (tOp mMul (tC (.int 8)) (mV 4)) tNil)))) (gName 8))
  (mIf (mTest (tOp mLe (tOp (mAdd K) (mV 6) (mV 8)) (tOp mMul (tC (.int 8)) (mV 4))))
    (tSeq (tDrop (tBM K "list" rAppend (mV 1) (tCons (tTup (tCons (mV 2) (tCons (mV 4) (tCons (mV 5) (tCons (mV 6) (tCons (mV 8) (tCons (tOp (mEq K) (tCall (sp__law_draw K A) [] E0 (tCons (mV 0) (tCons (tC (.int 2)) tNil))) (tC (.int 0))) tNil))))))) tNil)))
  (tAsg (tOp (mAdd K) (tOp (mAdd K) (mV 6) (mV 8)) (tCall (sp__law_draw K A) [] E0 (tCons (mV 0) (tCons (tC (.int 3)) tNil)))) (gName 6)))
    tNext)))
  (tAsg (tOp (mAdd K) (mV 2) (mV 4)) (gName 2)))))))
  (tRet (mV 1)))))
theorem rd__law_slots {K : PySem.W.Frag} {A : Ad} {vs : List V} {H : Hp} {Q : VK} {E : XK} (h : sp__law_slots K A vs H Q E) : t__law_slots K A { nx := fun _ H' => Q .non H', rt := Q } (start ["_law_box", "_law_found", "_law_at", "_law_word", "_law_size", "_law_big", "_law_first", "_law_k", "_law_width"] vs) H := by
  obtain ⟨b, g, ds, i, rfl, hb, hg, hbg, h0, h1, k⟩ := h
  show t__law_slots K A _ [some (.ref b), none, none, none, none, none, none, none, none] H
  unfold t__law_slots
  have hL : Led K H [b] H [(b, .raw (.lst [.ref g, .int i])), (g, .raw (.lst (ds.map V.int)))] [] := Led.mk2 hb hg hbg
  walk_at "gs"
  rename_i p H1 np h2
  have np0 : H p = none := np.elim id fun z => absurd (List.mem_singleton.mp z) (h2.ne 0 1 rfl rfl (by decide))
  refine lpR (fun t σ H2 => ∃ (j : Int) (at' : Nat) (l : List Sl) (y3 y4 y5 y6 y7 y8 : Option V), σ = [some (.ref b), some (.ref p), some (.int at'), y3, y4, y5, y6, y7, y8] ∧ at' ≤ 4 * t ∧ i ≤ j ∧ j ≤ i + 20 * t ∧ l.length ≤ 3 * t ∧
      (∀ x ∈ l, SlOk 16 x ∧ x.o + x.n ≤ at') ∧ l.Pairwise ap ∧ Led K H [b] H2 [(p, .dl (l.map sd)), (b, .raw (.lst [.ref g, .int j])), (g, .raw (.lst (ds.map V.int)))] [])
    ⟨i, 0, [], _, _, _, _, _, _, rfl, by omega, by omega, by omega, Nat.le_refl _, fun x hx => (nomatch hx), List.Pairwise.nil, h2.toD 0 rfl Ims.nil⟩ ?_ ?_
  · rintro t σ H2 ht ⟨j, at', l, y3, y4, y5, y6, y7, y8, rfl, ha, hj, hj2, hl, ok, pw, h3⟩
    have ht4 : t < 4 := ht
    walk_at "gs"
    rename_i q H3 nq h4 z H4 hz0 hz1 h5
    refine h_ixL 0 h5 rfl (at_ints (ns := [1, 2, 4]) hz0 hz1) ?_
    obtain ⟨n, hn, n1, n4⟩ : ∃ n : Nat, ([1, 2, 4] : List Int).getD z.toNat 0 = n ∧ 1 ≤ n ∧ n ≤ 4 := by
      rcases (show z = 0 ∨ z = 1 ∨ z = 2 by omega) with rfl | rfl | rfl
      · exact ⟨1, rfl, by decide, by decide⟩
      · exact ⟨2, rfl, by decide, by decide⟩
      · exact ⟨4, rfl, by decide, by decide⟩
    rw [hn]
    have h6 := h5.tlL
    clear h5 h4 h3 h2
    walk_at "gs"
    rename_i zb H5 hb0 hb1 h7 zf H6 hf0 hf1 h8 zk H7 hk0 hk1 h9
    generalize decide (zb = 0) = big at *
    obtain ⟨f, rfl⟩ := Int.eq_ofNat_of_zero_le hf0
    have h9 : Led K H [b] H7 [(p, .dl (l.map sd)), (b, .raw (.lst [.ref g, .int (j + 1 + 1 + 1 + 1)])), (g, .raw (.lst (ds.map V.int)))] [] := h9
    clear h6 h7 h8
    refine lpR (fun m σ H8 => ∃ (j' : Int) (f : Nat) (l : List Sl) (y7 y8 : Option V), σ = [some (.ref b), some (.ref p), some (.int at'), some (.int (0 + t)), some (.int n), some (.bl big), some (.int f), y7, y8] ∧ j + 4 ≤ j' ∧ j' ≤ j + 4 + 3 * m ∧ l.length ≤ 3 * t + m ∧
        (∀ x ∈ l, SlOk 16 x ∧ (x.o + x.n ≤ at' ∨ (x.o = at' ∧ x.n = n ∧ x.big = big ∧ x.f + x.w ≤ f))) ∧ l.Pairwise ap ∧ Led K H [b] H8 [(p, .dl (l.map sd)), (b, .raw (.lst [.ref g, .int j'])), (g, .raw (.lst (ds.map V.int)))] [])
      ⟨_, f, l, y7, y8, rfl, by omega, by omega, hl, fun x hx => ⟨(ok x hx).1, .inl (ok x hx).2⟩, pw, h9⟩ ?_ ?_
    · rintro m σ H8 hm ⟨j', f, l, y7, y8, rfl, hj3, hj4, hl, ok, pw, h9⟩
      have hm3 : m < 3 := by omega
      walk_at "gs"
      rename_i zw H9 hw0 hw1 h10
      obtain ⟨w, rfl⟩ := Int.eq_ofNat_of_zero_le hw0
      refine h_br (fun hc => ?_) (fun hc => ?_)
      · have lz : (l.map sd).length < sizeLine := by rw [List.length_map, sizeLine_eq]; omega
        walk_at "gs"
        rename_i zs H10 hs0 hs1 h11 r H11 h12 H12 h13 zg H13 hg0 hg1 h14
        obtain ⟨e, rfl⟩ := Int.eq_ofNat_of_zero_le hg0
        generalize decide (zs = 0) = s at *
        refine ⟨j' + 1 + 1 + 1, f + (1 + w) + e, l ++ [⟨at', n, big, f, 1 + w, s⟩], _, _, rfl, by omega, by omega, by rw [List.length_append]; show l.length + 1 ≤ _; omega, fun x hx => ?_, ?_, ?_⟩
        · rcases List.mem_append.mp hx with hx | hx
          · refine ⟨(ok x hx).1, (ok x hx).2.imp id fun q => ⟨q.1, q.2.1, q.2.2.1, by have := q.2.2.2; omega⟩⟩
          · cases List.mem_singleton.mp hx
            exact ⟨⟨n1, n4, by show at' + n ≤ 16; omega, by show 1 ≤ 1 + w; omega, by show f + (1 + w) ≤ 8 * n; omega⟩, .inr ⟨rfl, rfl, rfl, by show f + (1 + w) ≤ _; omega⟩⟩
        · refine List.pairwise_append.mpr ⟨pw, List.pairwise_singleton _ _, fun x hx y hy => ?_⟩
          cases List.mem_singleton.mp hy
          exact (ok x hx).2
        · have h15 := h14.noI
          rw [← snoc_map]
          exact h15
      · walk_at "gs"
        exact ⟨j' + 1, f, l, _, _, rfl, by omega, by omega, by omega, ok, pw, h10⟩
    · rintro σ H8 ⟨j', f, l, y7, y8, rfl, hj3, hj4, hl, ok, pw, h9⟩
      walk_at "gs"
      refine ⟨j', at' + n, l, _, _, _, _, _, _, rfl, by omega, by omega, by omega, by omega, fun x hx => ⟨(ok x hx).1, ?_⟩, pw, h9⟩
      rcases (ok x hx).2 with c | ⟨c1, c2, _, _⟩ <;> omega
  · rintro σ H2 ⟨j, at', l, y3, y4, y5, y6, y7, y8, rfl, ha, hj, hj2, hl, ok, pw, h3⟩
    have hl12 : l.length ≤ 3 * 4 := hl
    walk_at "gs"
    exact k p H2 j l hj (by omega) h3.kp (h3.raw 1 rfl) np0 (h3.at_ 0 _ _ rfl) (fun x hx => (ok x hx).1) pw hl12
def t__law_free_bits (K : PySem.W.Frag) (A : Ad) : TS :=
  (tSeq (tAsg (tLst tNil) (gName 2))
  (tSeq (tFor (jL K (mV 1)) (gTup K 6 (mGc (gName 3) (mGc (gName 4) (mGc (gName 5) (mGc (gName 6) (mGc (gName 7) (mGc (gName 8) mGn)))))))
    (tFor (jR2 (tCons (mV 6) (tCons (tOp (mAdd K) (mV 6) (mV 7)) tNil))) (gName 9)
    (tSeq (tAsg (tOp mFdiv (mV 9) (tC (.int 8))) (gName 10))
  (mCut (mIf (mTr K (mV 5))
    (tAsg (tOp mSub (tOp mSub (mV 4) (tC (.int 1))) (mV 10)) (gName 10))
    tNext)
  (tDrop (tBM K "list" rAppend (mV 2) (tCons (tOp (mAdd K) (tOp mMul (tOp (mAdd K) (mV 3) (mV 10)) (tC (.int 8))) (tOp mMod (tCB mInt (tCons (mV 9) tNil)) (tC (.int 8)))) tNil)))))))
  (tSeq (tAsg (tLst tNil) (gName 11))
  (tSeq (tFor (jR1 (tCons (tCB (hLen K) (tCons (mV 0) tNil)) tNil)) (gName 12)
    (tSeq (tAsg (tOp (rIx K) (mV 0) (mV 12)) (gName 10))
  (tFor (jR1 (tCons (tC (.int 8)) tNil)) (gName 9)
    (mCut (mIf (mTest (tOp (uNin K) (tOp (mAdd K) (tOp mMul (tC (.int 8)) (mV 12)) (mV 9)) (mV 2)))
    (tDrop (tBM K "list" rAppend (mV 11) (tCons (tOp mMod (tCB mInt (tCons (mV 10) tNil)) (tC (.int 2))) tNil)))
    tNext)
  (tAsg (tOp mFdiv (mV 10) (tC (.int 2))) (gName 10))))))
  (tRet (mV 11))))))
theorem rd__law_free_bits {K : PySem.W.Frag} {A : Ad} {vs : List V} {H : Hp} {Q : VK} {E : XK} (h : sp__law_free_bits K A vs H Q E) : t__law_free_bits K A { nx := fun _ H' => Q .non H', rt := Q } (start ["_law_data", "_law_slots_here", "_law_taken", "_law_offset", "_law_size", "_law_big", "_law_first", "_law_width", "_law_signed", "_law_bit", "_law_byte", "_law_found", "_law_at"] vs) H := by
  obtain ⟨a, p, ds, l, rfl, ha, hp, hap, ok, hl, hd, k⟩ := h
  show t__law_free_bits K A _ [some (.ref a), some (.ref p), none, none, none, none, none, none, none, none, none, none, none] H
  unfold t__law_free_bits
  have hL : Led K H [] H [(a, .raw (.lst (ds.map V.int))), (p, .dl (l.map sd))] [] := (Led.mk1 hp).cons (e := .raw (.lst (ds.map V.int))) ha fun m => hap (List.mem_singleton.mp m)
  have fl := flat_len ok
  walk_at "gs"
  rename_i tk H1 ntk h1
  have h1 : Led K H [] H1 [(tk, .raw (.lst ((ofN []).map V.int))), (a, .raw (.lst (ds.map V.int))), (p, .dl (l.map sd))] [] := h1
  refine lpLD (fun i σ H2 => ∃ y3 y4 y5 y6 y7 y8 y9 y10 : Option V, σ = [some (.ref a), some (.ref p), some (.ref tk), y3, y4, y5, y6, y7, y8, y9, y10, none, none] ∧ Led K H [] H2 [(tk, .raw (.lst ((ofN ((l.take i).flatMap ps)).map V.int))), (a, .raw (.lst (ds.map V.int))), (p, .dl (l.map sd))] [])
    ⟨_, _, _, _, _, _, _, _, rfl, h1⟩ (fun i σ H2 _ ⟨_, _, _, _, _, _, _, _, _, h2⟩ => h2.at_ 2 _ _ rfl) ?_ ?_
  · rintro i x d σ H2 hd1 hx ⟨y3, y4, y5, y6, y7, y8, y9, y10, rfl, h2⟩
    obtain ⟨s, hs, rfl⟩ := map_get hd1
    obtain ⟨c, rfl⟩ := hx.isRef
    have oks := ok s (List.mem_of_getElem? hs)
    obtain ⟨n1, n4, on, w0, fw⟩ := oks
    obtain ⟨hi1, _⟩ := List.getElem?_eq_some_iff.mp hs
    have h3 := h2.imNew hx
    refine h_gtupV hx rfl rfl ?_
    walk_at "gs"
    refine lpR (fun j σ H3 => ∃ y9 y10 : Option V, σ = [some (.ref a), some (.ref p), some (.ref tk), some (.int s.o), some (.int s.n), some (.bl s.big), some (.int s.f), some (.int s.w), some (.bl s.s), y9, y10, none, none] ∧
        Led K H [] H3 [(tk, .raw (.lst ((ofN ((l.take i).flatMap ps ++ (ps s).take j)).map V.int))), (a, .raw (.lst (ds.map V.int))), (p, .dl (l.map sd))] [])
      ⟨_, _, rfl, by rw [List.take_zero, List.append_nil]; exact h2⟩ ?_ ?_
    · rintro j σ H3 hj ⟨y9, y10, rfl, h4⟩
      have hjw : j < s.w := by omega
      have lz : (ofN ((l.take i).flatMap ps ++ (ps s).take j)).length < sizeLine := by
        unfold ofN
        have q := flat_len (l := l.take i) fun x hx => ok x (List.mem_of_mem_take hx)
        have q2 : (l.take i).length ≤ l.length := by rw [List.length_take]; omega
        rw [List.length_map, List.length_append, List.length_take, sizeLine_eq]
        omega
      walk_at "gs"
      refine h_cut (fun σ H4 => H4 = H3 ∧ ∃ y9 : Option V, σ = [some (.ref a), some (.ref p), some (.ref tk), some (.int s.o), some (.int s.n), some (.bl s.big), some (.int s.f), some (.int s.w), some (.bl s.s), some (.int (s.f + j)), some (.int (((if s.big = true then s.n - 1 - (s.f + j) / 8 else (s.f + j) / 8 : Nat)) : Int)), none, none]) ?_ ?_
      · walk_at "gs"
        refine h_brb (fun hb => ?_) (fun hb => ?_)
        · walk_at "gs"
          exact ⟨y9, by rw [if_pos hb]; simp only [List.cons.injEq, Option.some.injEq, V.int.injEq, and_true, true_and]; omega⟩
        · walk_at "gs"
          exact ⟨y9, by rw [hb, if_neg Bool.false_ne_true]; simp only [List.cons.injEq, Option.some.injEq, V.int.injEq, and_true, true_and]; omega⟩
      · rintro σ H4 ⟨rfl, y9, rfl⟩
        walk_at "gs"
        refine h_appI 0 h4 rfl ntk lz fun H5 h5 => ?_
        walk_at "gs"
        refine ⟨_, _, rfl, ?_⟩
        have e : ((s.o : Int) + ((if s.big = true then s.n - 1 - (s.f + j) / 8 else (s.f + j) / 8 : Nat) : Int)) * 8 + (s.f + j) % 8 = ((pos s (s.f + j) : Nat) : Int) := by
          unfold pos
          omega
        rw [e, ofN_snoc, List.append_assoc, ← ps_snoc hjw] at h5
        exact h5
    · rintro σ H3 ⟨y9, y10, rfl, h4⟩
      have e : (ps s).take ((s.f : Int) + s.w - s.f).toNat = ps s := List.take_of_length_le (by unfold ps; rw [List.length_map, List.length_range]; omega)
      rw [e, ← flat_snocS hs] at h4
      walk_at "gs"
      exact ⟨_, _, _, _, _, _, _, _, rfl, h4⟩
  · rintro σ H2 ⟨y3, y4, y5, y6, y7, y8, y9, y10, rfl, h2⟩
    rw [List.length_map, List.take_of_length_le (Nat.le_refl _)] at h2
    generalize hT : l.flatMap ps = T at *
    walk_at "gs"
    rename_i q H3 nq h3
    have nq0 : H q = none := nq.elim id fun z => nomatch z
    have h3 : Led K H [] H3 [(q, .raw (.lst ((freeT ds T (8 * 0)).map V.int))), (tk, .raw (.lst ((ofN T).map V.int))), (a, .raw (.lst (ds.map V.int))), (p, .dl (l.map sd))] [] := h3
    refine lpR (fun t σ H4 => ∃ y3 y4 y5 y6 y7 y8 y9 y10 y12 : Option V, σ = [some (.ref a), some (.ref p), some (.ref tk), y3, y4, y5, y6, y7, y8, y9, y10, some (.ref q), y12] ∧ Led K H [] H4 [(q, .raw (.lst ((freeT ds T (8 * t)).map V.int))), (tk, .raw (.lst ((ofN T).map V.int))), (a, .raw (.lst (ds.map V.int))), (p, .dl (l.map sd))] [])
      ⟨_, _, _, _, _, _, _, _, _, rfl, h3⟩ ?_ ?_
    · rintro t σ H4 ht ⟨y3, y4, y5, y6, y7, y8, y9, y10, y12, rfl, h4⟩
      have ht16 : t < 16 := by rw [List.length_map] at ht; omega
      walk_at "gs"
      refine h_ixI 2 h4 rfl (by omega) (by omega) ?_
      rw [show (0 + (t : Int)).toNat = t by omega]
      walk_at "gs"
      refine lpR (fun j σ H5 => ∃ y9 : Option V, σ = [some (.ref a), some (.ref p), some (.ref tk), y3, y4, y5, y6, y7, y8, y9, some (.int (ds.getD t 0 / 2 ^ j)), some (.ref q), some (.int (0 + t))] ∧ Led K H [] H5 [(q, .raw (.lst ((freeT ds T (8 * t + j)).map V.int))), (tk, .raw (.lst ((ofN T).map V.int))), (a, .raw (.lst (ds.map V.int))), (p, .dl (l.map sd))] [])
        ⟨y9, by rw [Int.pow_zero, Int.ediv_one], h4⟩ ?_ ?_
      · rintro j σ H5 hj ⟨y9, rfl, h5⟩
        have hj8 : j < 8 := hj
        have lz : (freeT ds T (8 * t + j)).length < sizeLine := by have := freeT_len ds T (8 * t + j); rw [sizeLine_eq]; omega
        have fin : ds.getD t 0 / 2 ^ j / 2 = ds.getD t 0 / 2 ^ (j + 1) := by rw [Int.ediv_ediv_of_nonneg (Int.le_of_lt (p2_pos j)), ← Int.pow_succ]
        have eb : ds.getD t 0 / 2 ^ j % 2 = bitB ds (8 * t + j) := by
          unfold bitB
          rw [show (8 * t + j) / 8 = t by omega, show (8 * t + j) % 8 = j by omega]
        walk_at "gs"
        refine h_cut (fun σ H6 => σ = [some (.ref a), some (.ref p), some (.ref tk), y3, y4, y5, y6, y7, y8, some (.int (0 + j)), some (.int (ds.getD t 0 / 2 ^ j)), some (.ref q), some (.int (0 + t))] ∧ Led K H [] H6 [(q, .raw (.lst ((freeT ds T (8 * t + (j + 1))).map V.int))), (tk, .raw (.lst ((ofN T).map V.int))), (a, .raw (.lst (ds.map V.int))), (p, .dl (l.map sd))] []) ?_ ?_
        · walk_at "gs"
          refine h_ninI 1 h5 rfl ?_
          rw [show 8 * (0 + (t : Int)) + (0 + (j : Int)) = ((8 * t + j : Nat) : Int) by omega]
          walk_at "gs"
          refine h_brn (fun hc => ?_) (fun hc => ?_)
          · rw [ofN_mem] at hc
            walk_at "gs"
            refine h_appI 0 h5 rfl nq lz fun H6 h6 => ?_
            walk_at "gs"
            rw [eb, ← freeT_out hc] at h6
            exact h6
          · rw [ofN_mem] at hc
            walk_at "gs"
            rw [← Nat.add_assoc, freeT_in hc]
            exact h5
        · rintro σ H6 ⟨rfl, h6⟩
          walk_at "gs"
          exact ⟨_, by rw [fin], h6⟩
      · rintro σ H5 ⟨y9, rfl, h5⟩
        walk_at "gs"
        exact ⟨_, _, _, _, _, _, _, _, _, rfl, h5⟩
    · rintro σ H4 ⟨y3, y4, y5, y6, y7, y8, y9, y10, y12, rfl, h4⟩
      have e : ((↑(ds.map V.int).length : Int)).toNat = ds.length := by rw [List.length_map]; omega
      rw [e] at h4
      walk_at "gs"
      exact k q H4 (KBs.same h4.kp) nq0 (h4.raw 0 rfl)

theorem rd_rng {ds : List Int} {x : Sl} (ok : SlOk 16 x) : (rd ds x).natAbs < 10 ^ 12 := by
  have h1 := ok.fw
  have h2 := ok.n4
  have pw := p2_pos x.w
  exact sgn_rng (by omega) (Int.emod_nonneg _ (by omega)) (Int.emod_lt_of_pos _ pw)
theorem map_snocI {α : Type} {l : List α} {i : Nat} {x : α} {f : α → Int} (h : l[i]? = some x) : (l.take i).map f ++ [f x] = (l.take (i + 1)).map f := by
  rw [List.take_add_one, h, List.map_append]
  rfl
def t_law (K : PySem.W.Frag) (A : Ad) : TS :=
  (tSeq (tAsg (tLst (tCons (tCall (sp__law_digits K A) [] E0 (tCons (mV 0) (tCons (tC (.int 0)) (tCons (tC (.int 40)) tNil)))) (tCons (tC (.int 0)) tNil))) (gName 1))
  (tSeq (tAsg (tCall (sp__law_slots K A) [] E0 (tCons (mV 1) tNil)) (gName 2))
  (tSeq (tAsg (tLc (jR1 (tCons (tC (.int 16)) tNil)) (gName 7) tYes (tCall (sp__law_draw K A) [] E0 (tCons (mV 1) (tCons (tC (.int 256)) tNil))) [7]) (gName 3))
  (tSeq (tAsg (tCall (sp__law_free_bits K A) [] E0 (tCons (mV 3) (tCons (mV 2) tNil))) (gName 4))
  (tSeq (tAsg (tLc (jL K (mV 2)) (gName 8) tYes (tCall (sp_read_slot K A) [] E0 (tCons (mV 3) (tCons (tOp (rIx K) (mV 8) (tC (.int 0))) (tCons (tOp (rIx K) (mV 8) (tC (.int 1))) (tCons (tOp (rIx K) (mV 8) (tC (.int 2))) (tCons (tOp (rIx K) (mV 8) (tC (.int 3))) (tCons (tOp (rIx K) (mV 8) (tC (.int 4))) (tCons (tOp (rIx K) (mV 8) (tC (.int 5))) tNil)))))))) [8]) (gName 5))
  (tSeq (tFor (jR1 (tCons (tC (.int 20)) tNil)) (gName 6)
    (mCut (mIf (mTest (tOp mGt (tCB (hLen K) (tCons (mV 2) tNil)) (tC (.int 0))))
    (tSeq (tAsg (tOp mMod (tCB mInt (tCons (tCall (sp__law_draw K A) [] E0 (tCons (mV 1) (tCons (tC (.int 90)) tNil))) tNil)) (tCB (hLen K) (tCons (mV 2) tNil))) (gName 7))
  (tSeq (tAsg (tOp (rIx K) (mV 2) (mV 7)) (gName 8))
  (tSeq (tAsg (tCall (sp_bounds K A) [] E0 (tCons (tOp (rIx K) (mV 8) (tC (.int 4))) (tCons (tOp (rIx K) (mV 8) (tC (.int 5))) tNil))) (gTup K 2 (mGc (gName 9) (mGc (gName 10) mGn))))
  (tSeq (tAsg (tOp (rIx K) (tLst (tCons (mV 9) (tCons (mV 10) (tCons (tOp (mAdd K) (mV 9) (tOp mMod (tCB mInt (tCons (tOp mMul (tCall (sp__law_draw K A) [] E0 (tCons (mV 1) (tCons (tC (.int 1000)) tNil))) (tC (.int 65537))) tNil)) (tOp (mAdd K) (tOp mSub (mV 10) (mV 9)) (tC (.int 1))))) tNil)))) (tCall (sp__law_draw K A) [] E0 (tCons (mV 1) (tCons (tC (.int 3)) tNil)))) (gSub (mV 5) (mV 7) rSetL))
  (tDrop (tCall (sp_write_slot K A) [] E0 (tCons (mV 3) (tCons (tOp (rIx K) (mV 8) (tC (.int 0))) (tCons (tOp (rIx K) (mV 8) (tC (.int 1))) (tCons (tOp (rIx K) (mV 8) (tC (.int 2))) (tCons (tOp (rIx K) (mV 8) (tC (.int 3))) (tCons (tOp (rIx K) (mV 8) (tC (.int 4))) (tCons (tOp (rIx K) (mV 8) (tC (.int 5))) (tCons (tOp (rIx K) (mV 5) (mV 7)) tNil))))))))))))))
    tNext)
  (tSeq (tAsg (tLc (jL K (mV 2)) (gName 8) tYes (tCall (sp_read_slot K A) [] E0 (tCons (mV 3) (tCons (tOp (rIx K) (mV 8) (tC (.int 0))) (tCons (tOp (rIx K) (mV 8) (tC (.int 1))) (tCons (tOp (rIx K) (mV 8) (tC (.int 2))) (tCons (tOp (rIx K) (mV 8) (tC (.int 3))) (tCons (tOp (rIx K) (mV 8) (tC (.int 4))) (tCons (tOp (rIx K) (mV 8) (tC (.int 5))) tNil)))))))) [8]) (gName 11))
  (mIf (tOr (tNot (mTr K (tCall (sp__law_list_is K A) [] E0 (tCons (mV 11) (tCons (mV 5) tNil))))) (mTest (tOp (mNe K) (tCall (sp__law_free_bits K A) [] E0 (tCons (mV 3) (tCons (mV 2) tNil))) (mV 4))))
    (tRet (tC (.bl false)))
    tNext))))
  (tRet (tC (.bl true)))))))))
theorem rd_law {K : PySem.W.Frag} {A : Ad} {vs : List V} {H : Hp} {Q : VK} {E : XK} (h : sp_law K A vs H Q E) :
    t_law K A { nx := fun _ H' => Q .non H', rt := Q } (start ["_law_script", "_law_box", "_law_slots_here", "_law_data", "_law_free", "_law_held", "_law_turn", "_law_k", "_law_slot", "_law_least", "_law_most", "_law_told"] vs) H := by
  obtain ⟨a, ns, rfl, hS, k⟩ := h
  show t_law K A _ [some (.ref a), none, none, none, none, none, none, none, none, none, none, none] H
  unfold t_law
  have hL : Led K H [] H [] [] := Led.start
  walk_at "gs"
  refine ⟨a, ns, 0, 40, rfl, hS, by omega, by omega, by omega, by omega, fun g H1 ds s1 ng hg => ?_⟩
  have h1 : Led K H [] H1 [(g, .raw (.lst (ds.map V.int)))] [] := hL.new s1 ng hg
  walk_at "gs"
  rename_i b H2 nb h2
  refine h_slots 0 h2 rfl rfl (by omega) (by omega) nb fun p H3 j l hj hj2 ok pw hl h3 => ?_
  walk_at "gs"
  refine lcR h3 (fun r m H7 => ∃ (j7 : Int) (ns : List Int), (j ≤ j7 ∧ j7 ≤ j + m) ∧ ns.length = m ∧ Byt ns ∧ (H r = none ∨ r ∈ []) ∧
      Led K H [] H7 [(r, .raw (.lst (ns.map V.int))), (p, .dl (l.map sd)), (b, .raw (.lst [.ref g, .int j7])), (g, .raw (.lst (ds.map V.int)))] [])
    (fun r H7 nr h7 => ⟨_, [], by omega, rfl, fun h hh => (nomatch hh), nr, h7⟩) ?_ ?_
  · rintro r m H7 hm ⟨j7, ns, hj7, hns, bns, nr, h7⟩
    walk_at "gs"
    rename_i z H8 hz0 hz1 h8
    obtain ⟨acc, a1, a2, a3⟩ := h_accL (y := .int z) 0 h8 rfl nr (by rw [List.length_map, sizeLine_eq]; omega)
    refine ⟨acc, a1, a2, j7 + 1, ns ++ [z], by omega, by rw [List.length_append, hns]; rfl, fun x hx => ?_, nr, ?_⟩
    · rcases List.mem_append.mp hx with hx | hx
      · exact bns x hx
      · cases List.mem_singleton.mp hx
        exact ⟨hz0, hz1⟩
    · rw [← map_snoc]
      exact a3
  rintro d H7 ⟨j7, D0, hj7, hD0, bD0, nd, h7⟩
  have hD16 : D0.length = 16 := hD0
  clear h1 h2 h3 hL
  walk_at "gs"
  refine h_freebits 0 1 (by decide) h7 rfl rfl ok hl hD16 fun fr H8 nf h8 => ?_
  walk_at "gs"
  refine lcLD h8 (fun r i H9 => (H r = none ∨ r ∈ []) ∧ Led K H [] H9 [(r, .raw (.lst (((l.take i).map (rd D0)).map V.int))), (fr, .raw (.lst ((free D0 (l.flatMap ps)).map V.int))), (d, .raw (.lst (D0.map V.int))), (p, .dl (l.map sd)), (b, .raw (.lst [.ref g, .int j7])), (g, .raw (.lst (ds.map V.int)))] [])
    (fun r H9 nr h9 => ⟨nr, h9⟩) (fun r i H9 _ ⟨_, h9⟩ => h9.at_ 3 _ _ rfl) ?_ ?_
  · rintro r i x dd H9 hd1 hx ⟨nr, h9⟩
    obtain ⟨s, hs, rfl⟩ := map_get hd1
    obtain ⟨c, rfl⟩ := hx.isRef
    have oks := ok s (List.mem_of_getElem? hs)
    obtain ⟨n1, n4, on, w0, fw⟩ := oks
    have h10 := h9.imNew hx
    walk_at "gs"
    obtain ⟨acc, a1, a2, a3⟩ := h_accL (y := .int (rd D0 s)) 0 h9 rfl nr (by rw [List.length_map, List.length_map, List.length_take, sizeLine_eq]; omega)
    refine ⟨acc, a1, a2, nr, ?_⟩
    rw [map_snoc, map_snocI hs] at a3
    exact a3
  rintro he H9 ⟨nhe, h9⟩
  rw [List.length_map, List.take_of_length_le (Nat.le_refl _)] at h9
  clear h8 h7
  walk_at "gs"
  refine lpR (fun t σ H3 => ∃ (j : Int) (D : List Int) (y6 y7 y8 y9 y10 y11 : Option V), σ = [some (.ref a), some (.ref b), some (.ref p), some (.ref d), some (.ref fr), some (.ref he), y6, y7, y8, y9, y10, y11] ∧ (0 ≤ j ∧ j ≤ 1000 + 1000 * t) ∧ Byt D ∧ D.length = 16 ∧
      free D (l.flatMap ps) = free D0 (l.flatMap ps) ∧
      Led K H [] H3 [(he, .raw (.lst ((l.map (rd D)).map V.int))), (fr, .raw (.lst ((free D0 (l.flatMap ps)).map V.int))), (d, .raw (.lst (D.map V.int))), (p, .dl (l.map sd)), (b, .raw (.lst [.ref g, .int j])), (g, .raw (.lst (ds.map V.int)))] [])
    ⟨j7, D0, _, _, _, _, _, _, rfl, by omega, bD0, hD16, rfl, h9⟩ ?_ ?_
  · clear h9
    rintro t σ H10 ht ⟨j, D, y6, y7, y8, y9, y10, y11, rfl, hj, bD, hD, fD, h10⟩
    have ht20 : t < 20 := ht
    walk_at "gs"
    refine h_cut (fun σ H3 => ∃ (j' : Int) (D : List Int) (y7 y8 y9 y10 : Option V), σ = [some (.ref a), some (.ref b), some (.ref p), some (.ref d), some (.ref fr), some (.ref he), some (.int (0 + t)), y7, y8, y9, y10, y11] ∧ (j ≤ j' ∧ j' ≤ j + 10) ∧ Byt D ∧ D.length = 16 ∧
        free D (l.flatMap ps) = free D0 (l.flatMap ps) ∧
        Led K H [] H3 [(he, .raw (.lst ((l.map (rd D)).map V.int))), (fr, .raw (.lst ((free D0 (l.flatMap ps)).map V.int))), (d, .raw (.lst (D.map V.int))), (p, .dl (l.map sd)), (b, .raw (.lst [.ref g, .int j'])), (g, .raw (.lst (ds.map V.int)))] []) ?_ ?_
    · walk_at "gs"
      rw [List.length_map]
      refine h_br (fun hc => ?_) (fun hc => ?_)
      · have lm : ((l.map sd).length : Int) = l.length := by rw [List.length_map]
        walk_at "gs"
        refine h_draw 4 h10 rfl rfl (by omega) (by omega) (by omega) nb fun z0 H11 z00 z01 h11 => ?_
        walk_at "gs"
        rw [lm]
        have q0 := Int.emod_nonneg z0 (show (l.length : Int) ≠ 0 by omega)
        have q1 := Int.emod_lt_of_pos z0 (show (0 : Int) < l.length by omega)
        obtain ⟨m, hm⟩ := Int.eq_ofNat_of_zero_le q0
        rw [hm] at q1 ⊢
        have hml : m < l.length := by omega
        obtain ⟨s, hs⟩ : ∃ s, l[m]? = some s := ⟨l[m], List.getElem?_eq_getElem hml⟩
        refine h_ixD 3 h11 rfl (by omega) (d := sd s) (by rw [show ((m : Int)).toNat = m by omega, List.getElem?_map, hs]; rfl) fun v hv => ?_
        obtain ⟨c, rfl⟩ := hv.isRef
        have oks := ok s (List.mem_of_getElem? hs)
        obtain ⟨n1, n4, on, w0, fw⟩ := id oks
        have h12 := h11.imNew hv
        obtain ⟨lh1, lh2⟩ := lo_hi (w := ((s.w : Int)).toNat) (s := s.s) (by omega)
        have h12 : Led K H [] H11 [(b, .raw (.lst [.ref g, .int (j + 1)])), (g, .raw (.lst (ds.map V.int))), (he, .raw (.lst ((l.map (rd D)).map V.int))), (d, .raw (.lst (D.map V.int))), (fr, .raw (.lst ((free D0 (l.flatMap ps)).map V.int))), (p, .dl (l.map sd))] [(.ref c, sd s)] := h12.pick [4, 5, 0, 2, 1, 3]
        clear h11 h10
        walk_at "gs"
        rename_i q3 H14 hp1 za H15 za0 za1 h15 q4 H16 nq4 h16 zc H17 zc0 zc1 h17
        refine h_ixL 0 h17 rfl (at_ints (ns := [_, _, _]) zc0 zc1) ?_
        have hv2 : ∀ v, v = ([lo s.w s.s, hi s.w s.s, lo s.w s.s + za * 65537 % (hi s.w s.s - lo s.w s.s + 1)] : List Int).getD zc.toNat 0 → lo s.w s.s ≤ v ∧ v ≤ hi s.w s.s := by
          intro v hv
          change lo s.w s.s ≤ hi s.w s.s at lh1
          subst hv
          rcases (show zc = 0 ∨ zc = 1 ∨ zc = 2 by omega) with rfl | rfl | rfl
          · exact ⟨Int.le_refl _, lh1⟩
          · exact ⟨lh1, Int.le_refl _⟩
          · have b1 := Int.emod_nonneg (za * 65537) (show hi s.w s.s - lo s.w s.s + 1 ≠ 0 by omega)
            have b2 := Int.emod_lt_of_pos (za * 65537) (show 0 < hi s.w s.s - lo s.w s.s + 1 by omega)
            exact ⟨by show _ ≤ lo _ _ + _; omega, by show lo _ _ + _ ≤ _; omega⟩
        obtain ⟨v, ev⟩ : ∃ v, v = ([lo s.w s.s, hi s.w s.s, lo s.w s.s + za * 65537 % (hi s.w s.s - lo s.w s.s + 1)] : List Int).getD zc.toNat 0 := ⟨_, rfl⟩
        obtain ⟨v0, v1⟩ := hv2 v ev
        have ev' : ([lo ((s.w : Int)).toNat s.s, hi ((s.w : Int)).toNat s.s, lo ((s.w : Int)).toNat s.s + za * 65537 % (hi ((s.w : Int)).toNat s.s - lo ((s.w : Int)).toNat s.s + 1)] : List Int).getD zc.toNat 0 = v := ev.symm
        rw [ev']
        clear ev ev' hv2 hv h12 hp1 h15 h16
        have h18 := h17.tlL
        have hI := h18.im 1 _ _ rfl
        clear h17
        have lm2 : (l.map (rd D)).length = l.length := List.length_map _
        walk_at "gs"
        refine h_setI 2 h18 rfl nhe (by omega) (by omega) fun H19 h19 => ?_
        rw [show ((m : Int)).toNat = m by omega] at h19
        clear h18
        walk_at "gs"
        refine h_ixI 2 h19 rfl (by omega) (by rw [List.length_set]; omega) ?_
        rw [show ((m : Int)).toNat = m by omega, List.getD_eq_getElem?_getD, List.getElem?_set_self (by omega)]
        show sp_write_slot K A [.ref d, .int s.o, .int s.n, .bl s.big, .int s.f, .int s.w, .bl s.s, .int v] _ _ _
        refine h_wslot 3 h19 rfl (by omega) (by omega) (by omega) (by omega) (by omega) (by omega) (by omega) (by omega) nd (fun c => ?_) (fun _ _ H20 h20 => ?_)
        · rcases c with c | c
          · exact absurd v0 (by show ¬ _; change v < lo s.w s.s at c; omega)
          · exact absurd v1 (by show ¬ _; change hi s.w s.s < v at c; omega)
        have h21 := h20.noI
        have h20 : Led K H [] H20 [(b, .raw (.lst [.ref g, .int (j + 1 + 1 + 1)])), (g, .raw (.lst (ds.map V.int))), (he, .raw (.lst (((l.map (rd D)).set m v).map V.int))), (d, .raw (.lst ((wr D s v).map V.int))), (fr, .raw (.lst ((free D0 (l.flatMap ps)).map V.int))), (p, .dl (l.map sd))] [] := h21
        clear h19 h21
        rw [← rds_wr bD ok pw (by omega) hs v0 v1] at h20
        walk_at "gs"
        exact ⟨_, wr D s v, _, _, _, _, rfl, by omega, wr_byt bD, by rw [wr_len (by omega)]; exact hD, by rw [free_wr bD oks (List.mem_of_getElem? hs) (by omega)]; exact fD, h20.pick [2, 4, 3, 5, 0, 1]⟩
      · walk_at "gs"
        exact ⟨j, D, _, _, _, _, rfl, by omega, bD, hD, fD, h10⟩
    · clear h10
      rintro σ H12 ⟨j', D, y7, y8, y9, y10, rfl, hj', bD, hD, fD, h12⟩
      walk_at "gs"
      refine lcLD h12 (fun r i H9 => (H r = none ∨ r ∈ []) ∧ Led K H [] H9 [(r, .raw (.lst (((l.take i).map (rd D)).map V.int))), (he, .raw (.lst ((l.map (rd D)).map V.int))), (fr, .raw (.lst ((free D0 (l.flatMap ps)).map V.int))), (d, .raw (.lst (D.map V.int))), (p, .dl (l.map sd)), (b, .raw (.lst [.ref g, .int j'])), (g, .raw (.lst (ds.map V.int)))] [])
        (fun r H9 nr h9 => ⟨nr, h9⟩) (fun r i H9 _ ⟨_, h9⟩ => h9.at_ 4 _ _ rfl) ?_ ?_
      · rintro r i x dd H9 hd1 hx ⟨nr, h9⟩
        obtain ⟨s, hs, rfl⟩ := map_get hd1
        obtain ⟨c, rfl⟩ := hx.isRef
        have oks := ok s (List.mem_of_getElem? hs)
        obtain ⟨n1, n4, on, w0, fw⟩ := oks
        have h10 := h9.imNew hx
        clear h12
        walk_at "gs"
        obtain ⟨acc, a1, a2, a3⟩ := h_accL (y := .int (rd D s)) 0 h9 rfl nr (by rw [List.length_map, List.length_map, List.length_take, sizeLine_eq]; omega)
        refine ⟨acc, a1, a2, nr, ?_⟩
        rw [map_snoc, map_snocI hs] at a3
        exact a3
      · rintro to H13 ⟨nto, h13⟩
        rw [List.length_map, List.take_of_length_le (Nat.le_refl _)] at h13
        clear h12
        walk_at "gs"
        refine h_listis 0 1 (by decide) h13 rfl rfl (by rw [List.length_map]; omega) (fun x hx => ?_) fun H14 h14 => ?_
        · obtain ⟨s, hs, rfl⟩ := List.mem_map.mp hx
          exact rd_rng (ok s hs)
        clear h13
        walk_at "gs"
        refine h_freebits 3 4 (by decide) h14 rfl rfl ok hl hD fun q H15 nq h15 => ?_
        walk_at "gs"
        refine h_neSame 0 3 h15 rfl rfl fD ?_
        walk_at "gs"
        exact ⟨j', D, _, _, _, _, _, _, rfl, by omega, bD, hD, fD, h15.pick [2, 3, 4, 5, 6, 7]⟩
  · rintro σ H3 ⟨j, D, y6, y7, y8, y9, y10, y11, rfl, hj, bD, hD, fD, h10⟩
    walk_at "gs"
    exact k H3

def topS (i : Nat) : Stmt := PySem.Challenge.pw_recstore_k01_slots_apart.main.body.getD i (.Pass ⟨0, 0, 0, 0⟩)
abbrev s_power : Stmt := topS 4
abbrev nm_power : List Str := ["exponent", "number", "_"]
theorem sc_power : FnScope nm_power ["exponent"] (defScope s_power) := ⟨rfl, rfl, rfl, by decide +kernel, rfl, by decide +kernel, by decide +kernel⟩
abbrev s_bounds : Stmt := topS 5
abbrev nm_bounds : List Str := ["width", "signed"]
theorem sc_bounds : FnScope nm_bounds ["width", "signed"] (defScope s_bounds) := ⟨rfl, rfl, rfl, by decide +kernel, rfl, by decide +kernel, by decide +kernel⟩
abbrev s_word_number : Stmt := topS 6
abbrev nm_word_number : List Str := ["data", "offset", "size", "big", "number", "at", "byte"]
theorem sc_word_number : FnScope nm_word_number ["data", "offset", "size", "big"] (defScope s_word_number) := ⟨rfl, rfl, rfl, by decide +kernel, rfl, by decide +kernel, by decide +kernel⟩
abbrev s_put_word_number : Stmt := topS 7
abbrev nm_put_word_number : List Str := ["data", "offset", "size", "big", "number", "at"]
theorem sc_put_word_number : FnScope nm_put_word_number ["data", "offset", "size", "big", "number"] (defScope s_put_word_number) := ⟨rfl, rfl, rfl, by decide +kernel, rfl, by decide +kernel, by decide +kernel⟩
abbrev s_read_slot : Stmt := topS 8
abbrev nm_read_slot : List Str := ["data", "offset", "size", "big", "first", "width", "signed", "number"]
theorem sc_read_slot : FnScope nm_read_slot ["data", "offset", "size", "big", "first", "width", "signed"] (defScope s_read_slot) := ⟨rfl, rfl, rfl, by decide +kernel, rfl, by decide +kernel, by decide +kernel⟩
abbrev s_write_slot : Stmt := topS 9
abbrev nm_write_slot : List Str := ["data", "offset", "size", "big", "first", "width", "signed", "value", "least", "most", "number", "old", "new"]
theorem sc_write_slot : FnScope nm_write_slot ["data", "offset", "size", "big", "first", "width", "signed", "value"] (defScope s_write_slot) := ⟨rfl, rfl, rfl, by decide +kernel, rfl, by decide +kernel, by decide +kernel⟩
abbrev s__law_cell : Stmt := topS 12
abbrev nm__law_cell : List Str := ["_law_script", "_law_k"]
theorem sc__law_cell : FnScope nm__law_cell ["_law_script", "_law_k"] (defScope s__law_cell) := ⟨rfl, rfl, rfl, by decide +kernel, rfl, by decide +kernel, by decide +kernel⟩
abbrev s__law_list_is : Stmt := topS 13
abbrev nm__law_list_is : List Str := ["_law_actual", "_law_due"]
theorem sc__law_list_is : FnScope nm__law_list_is ["_law_actual", "_law_due"] (defScope s__law_list_is) := ⟨rfl, rfl, rfl, by decide +kernel, rfl, by decide +kernel, by decide +kernel⟩
abbrev s__law_digits : Stmt := topS 15
abbrev nm__law_digits : List Str := ["_law_script", "_law_first", "_law_last", "_law_digits_here", "_law_k", "_law_cell_here", "_law_turn", "_law_seed"]
theorem sc__law_digits : FnScope nm__law_digits ["_law_script", "_law_first", "_law_last"] (defScope s__law_digits) := ⟨rfl, rfl, rfl, by decide +kernel, rfl, by decide +kernel, by decide +kernel⟩
abbrev s__law_draw : Stmt := topS 16
abbrev nm__law_draw : List Str := ["_law_box", "_law_many", "_law_at"]
theorem sc__law_draw : FnScope nm__law_draw ["_law_box", "_law_many"] (defScope s__law_draw) := ⟨rfl, rfl, rfl, by decide +kernel, rfl, by decide +kernel, by decide +kernel⟩
abbrev s__law_slots : Stmt := topS 17
abbrev nm__law_slots : List Str := ["_law_box", "_law_found", "_law_at", "_law_word", "_law_size", "_law_big", "_law_first", "_law_k", "_law_width"]
theorem sc__law_slots : FnScope nm__law_slots ["_law_box"] (defScope s__law_slots) := ⟨rfl, rfl, rfl, by decide +kernel, rfl, by decide +kernel, by decide +kernel⟩
abbrev s__law_free_bits : Stmt := topS 18
abbrev nm__law_free_bits : List Str := ["_law_data", "_law_slots_here", "_law_taken", "_law_offset", "_law_size", "_law_big", "_law_first", "_law_width", "_law_signed", "_law_bit", "_law_byte", "_law_found", "_law_at"]
theorem sc__law_free_bits : FnScope nm__law_free_bits ["_law_data", "_law_slots_here"] (defScope s__law_free_bits) := ⟨rfl, rfl, rfl, by decide +kernel, rfl, by decide +kernel, by decide +kernel⟩
abbrev s_law : Stmt := topS 19
abbrev nm_law : List Str := ["_law_script", "_law_box", "_law_slots_here", "_law_data", "_law_free", "_law_held", "_law_turn", "_law_k", "_law_slot", "_law_least", "_law_most", "_law_told"]
theorem sc_law : FnScope nm_law ["_law_script"] (defScope s_law) := ⟨rfl, rfl, rfl, by decide +kernel, rfl, by decide +kernel, by decide +kernel⟩
/-- where the defs stand -/
structure Tops where
  a_power : Addr
  d_power : FuncData
  a_bounds : Addr
  d_bounds : FuncData
  a_word_number : Addr
  d_word_number : FuncData
  a_put_word_number : Addr
  d_put_word_number : FuncData
  a_read_slot : Addr
  d_read_slot : FuncData
  a_write_slot : Addr
  d_write_slot : FuncData
  a__law_cell : Addr
  d__law_cell : FuncData
  a__law_list_is : Addr
  d__law_list_is : FuncData
  a__law_digits : Addr
  d__law_digits : FuncData
  a__law_draw : Addr
  d__law_draw : FuncData
  a__law_slots : Addr
  d__law_slots : FuncData
  a__law_free_bits : Addr
  d__law_free_bits : FuncData
  a_law : Addr
  d_law : FuncData
structure Top (K : PySem.W.Frag) (mg : Str → Option Value) (A : Ad) (W : Tops) : Prop where
  F_power : Fun K "power" "power" s_power W.a_power W.d_power
  b_power : Binds K W.d_power ["exponent"] []
  m_power : mg "power" = some (.ref W.a_power)
  F_bounds : Fun K "bounds" "bounds" s_bounds W.a_bounds W.d_bounds
  b_bounds : Binds K W.d_bounds ["width", "signed"] []
  m_bounds : mg "bounds" = some (.ref W.a_bounds)
  F_word_number : Fun K "word_number" "word_number" s_word_number W.a_word_number W.d_word_number
  b_word_number : Binds K W.d_word_number ["data", "offset", "size", "big"] []
  m_word_number : mg "word_number" = some (.ref W.a_word_number)
  F_put_word_number : Fun K "put_word_number" "put_word_number" s_put_word_number W.a_put_word_number W.d_put_word_number
  b_put_word_number : Binds K W.d_put_word_number ["data", "offset", "size", "big", "number"] []
  m_put_word_number : mg "put_word_number" = some (.ref W.a_put_word_number)
  F_read_slot : Fun K "read_slot" "read_slot" s_read_slot W.a_read_slot W.d_read_slot
  b_read_slot : Binds K W.d_read_slot ["data", "offset", "size", "big", "first", "width", "signed"] []
  m_read_slot : mg "read_slot" = some (.ref W.a_read_slot)
  F_write_slot : Fun K "write_slot" "write_slot" s_write_slot W.a_write_slot W.d_write_slot
  b_write_slot : Binds K W.d_write_slot ["data", "offset", "size", "big", "first", "width", "signed", "value"] []
  m_write_slot : mg "write_slot" = some (.ref W.a_write_slot)
  F__law_cell : Fun K "_law_cell" "_law_cell" s__law_cell W.a__law_cell W.d__law_cell
  b__law_cell : Binds K W.d__law_cell ["_law_script", "_law_k"] []
  m__law_cell : mg "_law_cell" = some (.ref W.a__law_cell)
  F__law_list_is : Fun K "_law_list_is" "_law_list_is" s__law_list_is W.a__law_list_is W.d__law_list_is
  b__law_list_is : Binds K W.d__law_list_is ["_law_actual", "_law_due"] []
  m__law_list_is : mg "_law_list_is" = some (.ref W.a__law_list_is)
  F__law_digits : Fun K "_law_digits" "_law_digits" s__law_digits W.a__law_digits W.d__law_digits
  b__law_digits : Binds K W.d__law_digits ["_law_script", "_law_first", "_law_last"] []
  m__law_digits : mg "_law_digits" = some (.ref W.a__law_digits)
  F__law_draw : Fun K "_law_draw" "_law_draw" s__law_draw W.a__law_draw W.d__law_draw
  b__law_draw : Binds K W.d__law_draw ["_law_box", "_law_many"] []
  m__law_draw : mg "_law_draw" = some (.ref W.a__law_draw)
  F__law_slots : Fun K "_law_slots" "_law_slots" s__law_slots W.a__law_slots W.d__law_slots
  b__law_slots : Binds K W.d__law_slots ["_law_box"] []
  m__law_slots : mg "_law_slots" = some (.ref W.a__law_slots)
  F__law_free_bits : Fun K "_law_free_bits" "_law_free_bits" s__law_free_bits W.a__law_free_bits W.d__law_free_bits
  b__law_free_bits : Binds K W.d__law_free_bits ["_law_data", "_law_slots_here"] []
  m__law_free_bits : mg "_law_free_bits" = some (.ref W.a__law_free_bits)
  F_law : Fun K "law" "law" s_law W.a_law W.d_law
  b_law : Binds K W.d_law ["_law_script"] []
  m_law : mg "law" = some (.ref W.a_law)
  n_int : mg "int" = none
  n_isinstance : mg "isinstance" = none
  n_len : mg "len" = none
  n_list : mg "list" = none
  n_range : mg "range" = none
  n_repr : mg "repr" = none
  m_OutOfRange : mg "OutOfRange" = some (.ref A.c_OutOfRange)
  x_OutOfRange : PySem.W.excIn K A.c_OutOfRange [.type "ValueError", .type "Exception", .type "BaseException", .type "object"] "ValueError.__new__" = true
  k_OutOfRange : PySem.W.keepIn K (.ref A.c_OutOfRange) = true
  bb_OutOfRange : PySem.W.subIn K (.ref A.c_OutOfRange) (.type "BaseException") = some true
  tt_OutOfRange : PySem.W.typeIn K (.ref A.c_OutOfRange) = some (.type "type")
section
variable {P : Program} {w : World} {K : PySem.W.Frag} {mg : Str → Option Value} {base : Heap} {A : Ad} {W : Tops}
theorem ok_power (T : Top K mg A W) : FnOk P w K mg base CX0 1 W.a_power W.d_power ["exponent"] (sp_power K A) := by
  refine T.F_power.ok sc_power (fun vs H Q E h => by first | (obtain ⟨rfl, _⟩ := h; rfl) | (obtain ⟨_, rfl, _⟩ := h; rfl) | (obtain ⟨_, _, rfl, _⟩ := h; rfl) | (obtain ⟨_, _, _, rfl, _⟩ := h; rfl) | (obtain ⟨_, _, _, _, rfl, _⟩ := h; rfl) | (obtain ⟨_, _, _, _, _, rfl, _⟩ := h; rfl) | (obtain ⟨_, _, _, _, _, _, rfl, _⟩ := h; rfl) | (obtain ⟨_, _, _, _, _, _, _, rfl, _⟩ := h; rfl) | (obtain ⟨_, _, _, _, _, _, _, _, rfl, _⟩ := h; rfl) | (obtain ⟨_, _, _, _, _, _, _, _, _, rfl, _⟩ := h; rfl) | (obtain ⟨_, _, _, _, _, _, _, _, _, _, rfl, _⟩ := h; rfl) | (obtain ⟨_, _, _, _, _, _, _, _, _, _, _, rfl, _⟩ := h; rfl) | (obtain ⟨_, _, _, _, _, _, _, _, _, _, _, _, rfl, _⟩ := h; rfl) | (obtain ⟨_, _, _, _, _, _, _, _, _, _, _, _, _, rfl, _⟩ := h; rfl) | (obtain ⟨_, _, _, _, _, _, _, _, _, _, _, _, _, _, rfl, _⟩ := h; rfl) | (obtain ⟨_, _, _, _, _, _, _, _, _, _, _, _, _, _, _, rfl, _⟩ := h; rfl)) (fun cdv A' outer s H vs Q E hr h => ⟨t_power K A, ?_, rd_power h⟩)
  unfold t_power
  exact (pss_cons (ps_set (i := 1) sc_power.nd rfl (Or.inl rfl) pe_int)
  (pss_cons (ps_for PassesOwn.never rfl (i_rng1 (pi_range1 (by rfl) T.n_range (pa_cons (pn 0) pa_nil))) (pg_name (i := 2) sc_power.nd rfl (Or.inl rfl))
    (pss_one (ps_set (i := 1) sc_power.nd rfl (Or.inl rfl) (pe_op o_mul (pn 1) pe_int))))
  (pss_one (ps_ret (pn 1)))))
theorem ok_bounds (T : Top K mg A W) : FnOk P w K mg base CX0 2 W.a_bounds W.d_bounds ["width", "signed"] (sp_bounds K A) := by
  refine T.F_bounds.ok sc_bounds (fun vs H Q E h => by first | (obtain ⟨rfl, _⟩ := h; rfl) | (obtain ⟨_, rfl, _⟩ := h; rfl) | (obtain ⟨_, _, rfl, _⟩ := h; rfl) | (obtain ⟨_, _, _, rfl, _⟩ := h; rfl) | (obtain ⟨_, _, _, _, rfl, _⟩ := h; rfl) | (obtain ⟨_, _, _, _, _, rfl, _⟩ := h; rfl) | (obtain ⟨_, _, _, _, _, _, rfl, _⟩ := h; rfl) | (obtain ⟨_, _, _, _, _, _, _, rfl, _⟩ := h; rfl) | (obtain ⟨_, _, _, _, _, _, _, _, rfl, _⟩ := h; rfl) | (obtain ⟨_, _, _, _, _, _, _, _, _, rfl, _⟩ := h; rfl) | (obtain ⟨_, _, _, _, _, _, _, _, _, _, rfl, _⟩ := h; rfl) | (obtain ⟨_, _, _, _, _, _, _, _, _, _, _, rfl, _⟩ := h; rfl) | (obtain ⟨_, _, _, _, _, _, _, _, _, _, _, _, rfl, _⟩ := h; rfl) | (obtain ⟨_, _, _, _, _, _, _, _, _, _, _, _, _, rfl, _⟩ := h; rfl) | (obtain ⟨_, _, _, _, _, _, _, _, _, _, _, _, _, _, rfl, _⟩ := h; rfl) | (obtain ⟨_, _, _, _, _, _, _, _, _, _, _, _, _, _, _, rfl, _⟩ := h; rfl)) (fun cdv A' outer s H vs Q E hr h => ⟨t_bounds K A, ?_, rd_bounds h⟩)
  unfold t_bounds
  exact (pss_cons (p_if (p_truth (pn 1) (by intro _; rfl))
    (pss_one (ps_ret (pe_tup (pa_cons (pe_op o_sub pe_int (pe_call (ok_power T) (hr.mono (by decide)) (by rfl) T.m_power T.F_power.kp T.b_power .nil pass0 (pa_cons (pe_op o_sub (pn 0) pe_int) pa_nil))) (pa_cons (pe_op o_sub (pe_call (ok_power T) (hr.mono (by decide)) (by rfl) T.m_power T.F_power.kp T.b_power .nil pass0 (pa_cons (pe_op o_sub (pn 0) pe_int) pa_nil)) pe_int) pa_nil)))))
    pss_nil)
  (pss_one (ps_ret (pe_tup (pa_cons pe_int (pa_cons (pe_op o_sub (pe_call (ok_power T) (hr.mono (by decide)) (by rfl) T.m_power T.F_power.kp T.b_power .nil pass0 (pa_cons (pn 0) pa_nil)) pe_int) pa_nil))))))
theorem ok_word_number (T : Top K mg A W) : FnOk P w K mg base CX0 1 W.a_word_number W.d_word_number ["data", "offset", "size", "big"] (sp_word_number K A) := by
  refine T.F_word_number.ok sc_word_number (fun vs H Q E h => by first | (obtain ⟨rfl, _⟩ := h; rfl) | (obtain ⟨_, rfl, _⟩ := h; rfl) | (obtain ⟨_, _, rfl, _⟩ := h; rfl) | (obtain ⟨_, _, _, rfl, _⟩ := h; rfl) | (obtain ⟨_, _, _, _, rfl, _⟩ := h; rfl) | (obtain ⟨_, _, _, _, _, rfl, _⟩ := h; rfl) | (obtain ⟨_, _, _, _, _, _, rfl, _⟩ := h; rfl) | (obtain ⟨_, _, _, _, _, _, _, rfl, _⟩ := h; rfl) | (obtain ⟨_, _, _, _, _, _, _, _, rfl, _⟩ := h; rfl) | (obtain ⟨_, _, _, _, _, _, _, _, _, rfl, _⟩ := h; rfl) | (obtain ⟨_, _, _, _, _, _, _, _, _, _, rfl, _⟩ := h; rfl) | (obtain ⟨_, _, _, _, _, _, _, _, _, _, _, rfl, _⟩ := h; rfl) | (obtain ⟨_, _, _, _, _, _, _, _, _, _, _, _, rfl, _⟩ := h; rfl) | (obtain ⟨_, _, _, _, _, _, _, _, _, _, _, _, _, rfl, _⟩ := h; rfl) | (obtain ⟨_, _, _, _, _, _, _, _, _, _, _, _, _, _, rfl, _⟩ := h; rfl) | (obtain ⟨_, _, _, _, _, _, _, _, _, _, _, _, _, _, _, rfl, _⟩ := h; rfl)) (fun cdv A' outer s H vs Q E hr h => ⟨t_word_number K A, ?_, rd_word_number h⟩)
  unfold t_word_number
  exact (pss_cons (ps_set (i := 4) sc_word_number.nd rfl (Or.inl rfl) pe_int)
  (pss_cons (ps_for PassesOwn.never rfl (i_rng1 (pi_range1 (by rfl) T.n_range (pa_cons (pn 2) pa_nil))) (pg_name (i := 5) sc_word_number.nd rfl (Or.inl rfl))
    (pss_cons (ps_set (i := 6) sc_word_number.nd rfl (Or.inl rfl) (pe_ix ix_seq (pn 0) (pe_op o_add (pn 1) (p_ifE (p_truth (pn 3) (by intro _; rfl)) (pn 5) (pe_op o_sub (pe_op o_sub (pn 2) pe_int) (pn 5)))) (fun _ _ => rfl)))
  (pss_one (ps_set (i := 4) sc_word_number.nd rfl (Or.inl rfl) (pe_op o_add (pe_op o_mul (pn 4) pe_int) (pn 6))))))
  (pss_one (ps_ret (pn 4)))))
theorem ok_put_word_number (T : Top K mg A W) : FnOk P w K mg base CX0 1 W.a_put_word_number W.d_put_word_number ["data", "offset", "size", "big", "number"] (sp_put_word_number K A) := by
  refine T.F_put_word_number.ok sc_put_word_number (fun vs H Q E h => by first | (obtain ⟨rfl, _⟩ := h; rfl) | (obtain ⟨_, rfl, _⟩ := h; rfl) | (obtain ⟨_, _, rfl, _⟩ := h; rfl) | (obtain ⟨_, _, _, rfl, _⟩ := h; rfl) | (obtain ⟨_, _, _, _, rfl, _⟩ := h; rfl) | (obtain ⟨_, _, _, _, _, rfl, _⟩ := h; rfl) | (obtain ⟨_, _, _, _, _, _, rfl, _⟩ := h; rfl) | (obtain ⟨_, _, _, _, _, _, _, rfl, _⟩ := h; rfl) | (obtain ⟨_, _, _, _, _, _, _, _, rfl, _⟩ := h; rfl) | (obtain ⟨_, _, _, _, _, _, _, _, _, rfl, _⟩ := h; rfl) | (obtain ⟨_, _, _, _, _, _, _, _, _, _, rfl, _⟩ := h; rfl) | (obtain ⟨_, _, _, _, _, _, _, _, _, _, _, rfl, _⟩ := h; rfl) | (obtain ⟨_, _, _, _, _, _, _, _, _, _, _, _, rfl, _⟩ := h; rfl) | (obtain ⟨_, _, _, _, _, _, _, _, _, _, _, _, _, rfl, _⟩ := h; rfl) | (obtain ⟨_, _, _, _, _, _, _, _, _, _, _, _, _, _, rfl, _⟩ := h; rfl) | (obtain ⟨_, _, _, _, _, _, _, _, _, _, _, _, _, _, _, rfl, _⟩ := h; rfl)) (fun cdv A' outer s H vs Q E hr h => ⟨t_put_word_number K A, ?_, rd_put_word_number h⟩)
  unfold t_put_word_number
  exact (pss_one (ps_for PassesOwn.never rfl (i_rng1 (pi_range1 (by rfl) T.n_range (pa_cons (pn 2) pa_nil))) (pg_name (i := 5) sc_put_word_number.nd rfl (Or.inl rfl))
    (pss_cons (ps_asg (pe_op o_mod (pn 4) pe_int) (pg_sub (pn 0) (pe_op o_add (pn 1) (p_ifE (p_truth (pn 3) (by intro _; rfl)) (pe_op o_sub (pe_op o_sub (pn 2) pe_int) (pn 5)) (pn 5))) set_list))
  (pss_one (ps_set (i := 4) sc_put_word_number.nd rfl (Or.inl rfl) (pe_op o_fdiv (pn 4) pe_int))))))
theorem ok_read_slot (T : Top K mg A W) : FnOk P w K mg base CX0 2 W.a_read_slot W.d_read_slot ["data", "offset", "size", "big", "first", "width", "signed"] (sp_read_slot K A) := by
  refine T.F_read_slot.ok sc_read_slot (fun vs H Q E h => by first | (obtain ⟨rfl, _⟩ := h; rfl) | (obtain ⟨_, rfl, _⟩ := h; rfl) | (obtain ⟨_, _, rfl, _⟩ := h; rfl) | (obtain ⟨_, _, _, rfl, _⟩ := h; rfl) | (obtain ⟨_, _, _, _, rfl, _⟩ := h; rfl) | (obtain ⟨_, _, _, _, _, rfl, _⟩ := h; rfl) | (obtain ⟨_, _, _, _, _, _, rfl, _⟩ := h; rfl) | (obtain ⟨_, _, _, _, _, _, _, rfl, _⟩ := h; rfl) | (obtain ⟨_, _, _, _, _, _, _, _, rfl, _⟩ := h; rfl) | (obtain ⟨_, _, _, _, _, _, _, _, _, rfl, _⟩ := h; rfl) | (obtain ⟨_, _, _, _, _, _, _, _, _, _, rfl, _⟩ := h; rfl) | (obtain ⟨_, _, _, _, _, _, _, _, _, _, _, rfl, _⟩ := h; rfl) | (obtain ⟨_, _, _, _, _, _, _, _, _, _, _, _, rfl, _⟩ := h; rfl) | (obtain ⟨_, _, _, _, _, _, _, _, _, _, _, _, _, rfl, _⟩ := h; rfl) | (obtain ⟨_, _, _, _, _, _, _, _, _, _, _, _, _, _, rfl, _⟩ := h; rfl) | (obtain ⟨_, _, _, _, _, _, _, _, _, _, _, _, _, _, _, rfl, _⟩ := h; rfl)) (fun cdv A' outer s H vs Q E hr h => ⟨t_read_slot K A, ?_, rd_read_slot h⟩)
  unfold t_read_slot
  exact (pss_cons (ps_set (i := 7) sc_read_slot.nd rfl (Or.inl rfl) (pe_op o_mod (pe_op o_fdiv (pe_call (ok_word_number T) (hr.mono (by decide)) (by rfl) T.m_word_number T.F_word_number.kp T.b_word_number .nil pass0 (pa_cons (pn 0) (pa_cons (pn 1) (pa_cons (pn 2) (pa_cons (pn 3) pa_nil))))) (pe_call (ok_power T) (hr.mono (by decide)) (by rfl) T.m_power T.F_power.kp T.b_power .nil pass0 (pa_cons (pn 4) pa_nil))) (pe_call (ok_power T) (hr.mono (by decide)) (by rfl) T.m_power T.F_power.kp T.b_power .nil pass0 (pa_cons (pn 5) pa_nil))))
  (pss_cons (p_if (PW.pt (pw_and (p_truth (pn 6) (by intro _; rfl)) (pw_and1 (m_test (pt_cmpR o_ge (pn 7) (pe_call (ok_power T) (hr.mono (by decide)) (by rfl) T.m_power T.F_power.kp T.b_power .nil pass0 (pa_cons (pe_op o_sub (pn 5) pe_int) pa_nil)) (nomark _))))))
    (pss_one (ps_ret (pe_op o_sub (pn 7) (pe_call (ok_power T) (hr.mono (by decide)) (by rfl) T.m_power T.F_power.kp T.b_power .nil pass0 (pa_cons (pn 5) pa_nil)))))
    pss_nil)
  (pss_one (ps_ret (pn 7)))))
theorem ok_write_slot (T : Top K mg A W) : FnOk P w K mg base (L2.CX P w) 3 W.a_write_slot W.d_write_slot ["data", "offset", "size", "big", "first", "width", "signed", "value"] (sp_write_slot K A) := by
  refine T.F_write_slot.okX sc_write_slot (fun vs H Q E h => by first | (obtain ⟨rfl, _⟩ := h; rfl) | (obtain ⟨_, rfl, _⟩ := h; rfl) | (obtain ⟨_, _, rfl, _⟩ := h; rfl) | (obtain ⟨_, _, _, rfl, _⟩ := h; rfl) | (obtain ⟨_, _, _, _, rfl, _⟩ := h; rfl) | (obtain ⟨_, _, _, _, _, rfl, _⟩ := h; rfl) | (obtain ⟨_, _, _, _, _, _, rfl, _⟩ := h; rfl) | (obtain ⟨_, _, _, _, _, _, _, rfl, _⟩ := h; rfl) | (obtain ⟨_, _, _, _, _, _, _, _, rfl, _⟩ := h; rfl) | (obtain ⟨_, _, _, _, _, _, _, _, _, rfl, _⟩ := h; rfl) | (obtain ⟨_, _, _, _, _, _, _, _, _, _, rfl, _⟩ := h; rfl) | (obtain ⟨_, _, _, _, _, _, _, _, _, _, _, rfl, _⟩ := h; rfl) | (obtain ⟨_, _, _, _, _, _, _, _, _, _, _, _, rfl, _⟩ := h; rfl) | (obtain ⟨_, _, _, _, _, _, _, _, _, _, _, _, _, rfl, _⟩ := h; rfl) | (obtain ⟨_, _, _, _, _, _, _, _, _, _, _, _, _, _, rfl, _⟩ := h; rfl) | (obtain ⟨_, _, _, _, _, _, _, _, _, _, _, _, _, _, _, rfl, _⟩ := h; rfl)) (fun cdv A' outer s H vs Q E hr h => ⟨t_write_slot K A (fun cls d _ H => E cls d H), ?_, rd_write_slot h⟩)
  unfold t_write_slot
  exact (pss_cons (ps_asg (pe_call (ok_bounds T) (hr.mono (by decide)) (by rfl) T.m_bounds T.F_bounds.kp T.b_bounds .nil pass0 (pa_cons (pn 5) (pa_cons (pn 6) pa_nil))) (pg_tup rfl (p_gcons (pg_name (i := 8) sc_write_slot.nd rfl (Or.inl rfl)) (p_gcons (pg_name (i := 9) sc_write_slot.nd rfl (Or.inl rfl)) p_gnil))))
  (pss_cons (p_if (PW.pt (pw_or (m_test (pt_cmpR o_lt (pn 7) (pn 8) (nomark _))) (pw_or1 (m_test (pt_cmpR o_gt (pn 7) (pn 9) (nomark _))))))
    (pss_one (p_raise0 rfl (takes_of rfl rfl rfl rfl) PySem.F.excBase_ValueError T.x_OutOfRange T.m_OutOfRange T.k_OutOfRange T.bb_OutOfRange T.tt_OutOfRange (by rfl)))
    pss_nil)
  (pss_cons (ps_set (i := 10) sc_write_slot.nd rfl (Or.inl rfl) (pe_call (ok_word_number T) (hr.mono (by decide)) (by rfl) T.m_word_number T.F_word_number.kp T.b_word_number .nil pass0 (pa_cons (pn 0) (pa_cons (pn 1) (pa_cons (pn 2) (pa_cons (pn 3) pa_nil))))))
  (pss_cons (ps_set (i := 11) sc_write_slot.nd rfl (Or.inl rfl) (pe_op o_mod (pe_op o_fdiv (pn 10) (pe_call (ok_power T) (hr.mono (by decide)) (by rfl) T.m_power T.F_power.kp T.b_power .nil pass0 (pa_cons (pn 4) pa_nil))) (pe_call (ok_power T) (hr.mono (by decide)) (by rfl) T.m_power T.F_power.kp T.b_power .nil pass0 (pa_cons (pn 5) pa_nil))))
  (pss_cons (ps_set (i := 12) sc_write_slot.nd rfl (Or.inl rfl) (pe_op o_mod (pn 7) (pe_call (ok_power T) (hr.mono (by decide)) (by rfl) T.m_power T.F_power.kp T.b_power .nil pass0 (pa_cons (pn 5) pa_nil))))
  (pss_one (ps_expr (pe_call (ok_put_word_number T) (hr.mono (by decide)) (by rfl) T.m_put_word_number T.F_put_word_number.kp T.b_put_word_number .nil pass0 (pa_cons (pn 0) (pa_cons (pn 1) (pa_cons (pn 2) (pa_cons (pn 3) (pa_cons (pe_op o_add (pn 10) (pe_op o_mul (pe_op o_sub (pn 12) (pn 11)) (pe_call (ok_power T) (hr.mono (by decide)) (by rfl) T.m_power T.F_power.kp T.b_power .nil pass0 (pa_cons (pn 4) pa_nil)))) pa_nil)))))))))))))
theorem ok__law_cell (T : Top K mg A W) : FnOk P w K mg base CX0 1 W.a__law_cell W.d__law_cell ["_law_script", "_law_k"] (sp__law_cell K A) := by
  refine T.F__law_cell.ok sc__law_cell (fun vs H Q E h => by first | (obtain ⟨rfl, _⟩ := h; rfl) | (obtain ⟨_, rfl, _⟩ := h; rfl) | (obtain ⟨_, _, rfl, _⟩ := h; rfl) | (obtain ⟨_, _, _, rfl, _⟩ := h; rfl) | (obtain ⟨_, _, _, _, rfl, _⟩ := h; rfl) | (obtain ⟨_, _, _, _, _, rfl, _⟩ := h; rfl) | (obtain ⟨_, _, _, _, _, _, rfl, _⟩ := h; rfl) | (obtain ⟨_, _, _, _, _, _, _, rfl, _⟩ := h; rfl) | (obtain ⟨_, _, _, _, _, _, _, _, rfl, _⟩ := h; rfl) | (obtain ⟨_, _, _, _, _, _, _, _, _, rfl, _⟩ := h; rfl) | (obtain ⟨_, _, _, _, _, _, _, _, _, _, rfl, _⟩ := h; rfl) | (obtain ⟨_, _, _, _, _, _, _, _, _, _, _, rfl, _⟩ := h; rfl) | (obtain ⟨_, _, _, _, _, _, _, _, _, _, _, _, rfl, _⟩ := h; rfl) | (obtain ⟨_, _, _, _, _, _, _, _, _, _, _, _, _, rfl, _⟩ := h; rfl) | (obtain ⟨_, _, _, _, _, _, _, _, _, _, _, _, _, _, rfl, _⟩ := h; rfl) | (obtain ⟨_, _, _, _, _, _, _, _, _, _, _, _, _, _, _, rfl, _⟩ := h; rfl)) (fun cdv A' outer s H vs Q E hr h => ⟨t__law_cell K A, ?_, rd__law_cell h⟩)
  unfold t__law_cell
  exact (pss_cons (p_if (m_test (pt_cmpR o_lt (pn 1) (pe_callB c_len (by rfl) T.n_len (by decide +kernel) (pa_cons (pn 0) pa_nil)) (nomark _)))
    (pss_one (ps_ret (pe_ix ix_seq (pn 0) (pn 1) (fun _ _ => rfl))))
    pss_nil)
  (pss_one (ps_ret pe_int)))
theorem ok__law_list_is (T : Top K mg A W) : FnG P w K mg base 1 W.a__law_list_is W.d__law_list_is ["_law_actual", "_law_due"] (sp__law_list_is K A) := by
  refine okG T.F__law_list_is sc__law_list_is (fun vs H Q E h => by first | (obtain ⟨rfl, _⟩ := h; rfl) | (obtain ⟨_, rfl, _⟩ := h; rfl) | (obtain ⟨_, _, rfl, _⟩ := h; rfl) | (obtain ⟨_, _, _, rfl, _⟩ := h; rfl) | (obtain ⟨_, _, _, _, rfl, _⟩ := h; rfl) | (obtain ⟨_, _, _, _, _, rfl, _⟩ := h; rfl) | (obtain ⟨_, _, _, _, _, _, rfl, _⟩ := h; rfl) | (obtain ⟨_, _, _, _, _, _, _, rfl, _⟩ := h; rfl) | (obtain ⟨_, _, _, _, _, _, _, _, rfl, _⟩ := h; rfl) | (obtain ⟨_, _, _, _, _, _, _, _, _, rfl, _⟩ := h; rfl) | (obtain ⟨_, _, _, _, _, _, _, _, _, _, rfl, _⟩ := h; rfl) | (obtain ⟨_, _, _, _, _, _, _, _, _, _, _, rfl, _⟩ := h; rfl) | (obtain ⟨_, _, _, _, _, _, _, _, _, _, _, _, rfl, _⟩ := h; rfl) | (obtain ⟨_, _, _, _, _, _, _, _, _, _, _, _, _, rfl, _⟩ := h; rfl) | (obtain ⟨_, _, _, _, _, _, _, _, _, _, _, _, _, _, rfl, _⟩ := h; rfl) | (obtain ⟨_, _, _, _, _, _, _, _, _, _, _, _, _, _, _, rfl, _⟩ := h; rfl)) (fun cdv A' outer s H vs Q E hr hg h => ⟨t__law_list_is K A, ?_, rd__law_list_is h⟩)
  unfold t__law_list_is
  exact (pss_one (ps_ret (p_and (pe_callB c_isi (by rfl) T.n_isinstance (by decide +kernel) (pa_cons (pn 0) (pa_cons (pe_bltn (by rfl) T.n_list (by decide +kernel) rfl) pa_nil))) (pe_one (pe_cmpR (o_eq hr.units) (pe_callB (c_repr hg hr.units) (by rfl) T.n_repr (by decide +kernel) (pa_cons (pn 0) pa_nil)) (pe_callB (c_repr hg hr.units) (by rfl) T.n_repr (by decide +kernel) (pa_cons (pe_callTy c_list (by rfl) T.n_list (by decide +kernel) (pa_cons (pn 1) pa_nil)) pa_nil)) (nomark _))))))
theorem ok__law_digits (T : Top K mg A W) : FnOk P w K mg base CX0 2 W.a__law_digits W.d__law_digits ["_law_script", "_law_first", "_law_last"] (sp__law_digits K A) := by
  refine T.F__law_digits.ok sc__law_digits (fun vs H Q E h => by first | (obtain ⟨rfl, _⟩ := h; rfl) | (obtain ⟨_, rfl, _⟩ := h; rfl) | (obtain ⟨_, _, rfl, _⟩ := h; rfl) | (obtain ⟨_, _, _, rfl, _⟩ := h; rfl) | (obtain ⟨_, _, _, _, rfl, _⟩ := h; rfl) | (obtain ⟨_, _, _, _, _, rfl, _⟩ := h; rfl) | (obtain ⟨_, _, _, _, _, _, rfl, _⟩ := h; rfl) | (obtain ⟨_, _, _, _, _, _, _, rfl, _⟩ := h; rfl) | (obtain ⟨_, _, _, _, _, _, _, _, rfl, _⟩ := h; rfl) | (obtain ⟨_, _, _, _, _, _, _, _, _, rfl, _⟩ := h; rfl) | (obtain ⟨_, _, _, _, _, _, _, _, _, _, rfl, _⟩ := h; rfl) | (obtain ⟨_, _, _, _, _, _, _, _, _, _, _, rfl, _⟩ := h; rfl) | (obtain ⟨_, _, _, _, _, _, _, _, _, _, _, _, rfl, _⟩ := h; rfl) | (obtain ⟨_, _, _, _, _, _, _, _, _, _, _, _, _, rfl, _⟩ := h; rfl) | (obtain ⟨_, _, _, _, _, _, _, _, _, _, _, _, _, _, rfl, _⟩ := h; rfl) | (obtain ⟨_, _, _, _, _, _, _, _, _, _, _, _, _, _, _, rfl, _⟩ := h; rfl)) (fun cdv A' outer s H vs Q E hr h => ⟨t__law_digits K A, ?_, rd__law_digits h⟩)
  unfold t__law_digits
  exact (pss_cons (ps_set (i := 3) sc__law_digits.nd rfl (Or.inl rfl) (pe_lst pa_nil))
  (pss_cons (ps_for PassesOwn.never rfl (i_rng2 (pi_range2 (by rfl) T.n_range (pa_cons (pn 1) (pa_cons (pn 2) pa_nil)))) (pg_name (i := 4) sc__law_digits.nd rfl (Or.inl rfl))
    (pss_cons (ps_set (i := 5) sc__law_digits.nd rfl (Or.inl rfl) (pe_call (ok__law_cell T) (hr.mono (by decide)) (by rfl) T.m__law_cell T.F__law_cell.kp T.b__law_cell .nil pass0 (pa_cons (pn 0) (pa_cons (pn 4) pa_nil))))
  (p_cut (p_if (m_test (pt_cmpR o_lt (pn 5) pe_int (nomark _)))
    (pss_one (ps_set (i := 5) sc__law_digits.nd rfl (Or.inl rfl) (pe_op o_sub pe_int (pe_op o_mul pe_int (pn 5)))))
    pss_nil)
  (pss_one (p_if (m_test (pt_cmpR o_ge (pn 5) (pe_op o_pow pe_int pe_int) (nomark _)))
    (pss_one (ps_for PassesOwn.never rfl (i_rng1 (pi_range1 (by rfl) T.n_range (pa_cons pe_int pa_nil))) (pg_name (i := 6) sc__law_digits.nd rfl (Or.inl rfl))
    (pss_one (p_if (m_test (pt_cmpR o_gt (pn 5) pe_int (nomark _)))
    (pss_cons (ps_expr (pe_bm PySem.F.plainAttrs_list PySem.F.slot_list_append PySem.F.type_list_append mt_append (pn 3) (pa_cons (pe_op o_mod (pe_callTy c_int (by rfl) T.n_int (by decide +kernel) (pa_cons (pn 5) pa_nil)) pe_int) pa_nil)))
  (pss_one (ps_set (i := 5) sc__law_digits.nd rfl (Or.inl rfl) (pe_op o_fdiv (pn 5) pe_int))))
    pss_nil))))
    (pss_cons (ps_set (i := 7) sc__law_digits.nd rfl (Or.inl rfl) (pe_op o_mod (pe_callTy c_int (by rfl) T.n_int (by decide +kernel) (pa_cons (pe_op o_add (pe_op o_add (pe_op o_mul (pn 5) pe_int) (pe_op o_mul (pn 4) pe_int)) pe_int) pa_nil)) pe_int))
  (pss_one (ps_for PassesOwn.never rfl (i_rng1 (pi_range1 (by rfl) T.n_range (pa_cons pe_int pa_nil))) (pg_name (i := 6) sc__law_digits.nd rfl (Or.inl rfl))
    (pss_cons (ps_set (i := 7) sc__law_digits.nd rfl (Or.inl rfl) (pe_op o_mod (pe_callTy c_int (by rfl) T.n_int (by decide +kernel) (pa_cons (pe_op o_add (pe_op o_add (pe_op o_mul (pn 7) pe_int) (pe_op o_mul pe_int (pn 6))) pe_int) pa_nil)) pe_int))
  (pss_one (ps_expr (pe_bm PySem.F.plainAttrs_list PySem.F.slot_list_append PySem.F.type_list_append mt_append (pn 3) (pa_cons (pe_op o_mod (pe_callTy c_int (by rfl) T.n_int (by decide +kernel) (pa_cons (pe_op o_fdiv (pn 7) pe_int) pa_nil)) pe_int) pa_nil)))))))))))))
  (pss_one (ps_ret (pn 3)))))
theorem ok__law_draw (T : Top K mg A W) : FnOk P w K mg base CX0 1 W.a__law_draw W.d__law_draw ["_law_box", "_law_many"] (sp__law_draw K A) := by
  refine T.F__law_draw.ok sc__law_draw (fun vs H Q E h => by first | (obtain ⟨rfl, _⟩ := h; rfl) | (obtain ⟨_, rfl, _⟩ := h; rfl) | (obtain ⟨_, _, rfl, _⟩ := h; rfl) | (obtain ⟨_, _, _, rfl, _⟩ := h; rfl) | (obtain ⟨_, _, _, _, rfl, _⟩ := h; rfl) | (obtain ⟨_, _, _, _, _, rfl, _⟩ := h; rfl) | (obtain ⟨_, _, _, _, _, _, rfl, _⟩ := h; rfl) | (obtain ⟨_, _, _, _, _, _, _, rfl, _⟩ := h; rfl) | (obtain ⟨_, _, _, _, _, _, _, _, rfl, _⟩ := h; rfl) | (obtain ⟨_, _, _, _, _, _, _, _, _, rfl, _⟩ := h; rfl) | (obtain ⟨_, _, _, _, _, _, _, _, _, _, rfl, _⟩ := h; rfl) | (obtain ⟨_, _, _, _, _, _, _, _, _, _, _, rfl, _⟩ := h; rfl) | (obtain ⟨_, _, _, _, _, _, _, _, _, _, _, _, rfl, _⟩ := h; rfl) | (obtain ⟨_, _, _, _, _, _, _, _, _, _, _, _, _, rfl, _⟩ := h; rfl) | (obtain ⟨_, _, _, _, _, _, _, _, _, _, _, _, _, _, rfl, _⟩ := h; rfl) | (obtain ⟨_, _, _, _, _, _, _, _, _, _, _, _, _, _, _, rfl, _⟩ := h; rfl)) (fun cdv A' outer s H vs Q E hr h => ⟨t__law_draw K A, ?_, rd__law_draw h⟩)
  unfold t__law_draw
  exact (pss_cons (ps_set (i := 2) sc__law_draw.nd rfl (Or.inl rfl) (pe_ix ix_seq (pn 0) pe_int (fun _ _ => rfl)))
  (pss_cons (ps_asg (pe_op o_add (pn 2) pe_int) (pg_sub (pn 0) pe_int set_list))
  (pss_cons (p_if (m_test (pt_cmpR o_lt (pn 2) (pe_callB c_len (by rfl) T.n_len (by decide +kernel) (pa_cons (pe_ix ix_seq (pn 0) pe_int (fun _ _ => rfl)) pa_nil)) (nomark _)))
    (pss_one (ps_ret (pe_op o_mod (pe_callTy c_int (by rfl) T.n_int (by decide +kernel) (pa_cons (pe_ix ix_seq (pe_ix ix_seq (pn 0) pe_int (fun _ _ => rfl)) (pn 2) (fun _ _ => rfl)) pa_nil)) (pn 1))))
    pss_nil)
  (pss_one (ps_ret (pe_op o_mod (pe_callTy c_int (by rfl) T.n_int (by decide +kernel) (pa_cons (pe_op o_add (pe_op o_mul (pn 2) pe_int) pe_int) pa_nil)) (pn 1)))))))
theorem ok__law_slots (T : Top K mg A W) : FnOk P w K mg base CX0 2 W.a__law_slots W.d__law_slots ["_law_box"] (sp__law_slots K A) := by
  refine T.F__law_slots.ok sc__law_slots (fun vs H Q E h => by first | (obtain ⟨rfl, _⟩ := h; rfl) | (obtain ⟨_, rfl, _⟩ := h; rfl) | (obtain ⟨_, _, rfl, _⟩ := h; rfl) | (obtain ⟨_, _, _, rfl, _⟩ := h; rfl) | (obtain ⟨_, _, _, _, rfl, _⟩ := h; rfl) | (obtain ⟨_, _, _, _, _, rfl, _⟩ := h; rfl) | (obtain ⟨_, _, _, _, _, _, rfl, _⟩ := h; rfl) | (obtain ⟨_, _, _, _, _, _, _, rfl, _⟩ := h; rfl) | (obtain ⟨_, _, _, _, _, _, _, _, rfl, _⟩ := h; rfl) | (obtain ⟨_, _, _, _, _, _, _, _, _, rfl, _⟩ := h; rfl) | (obtain ⟨_, _, _, _, _, _, _, _, _, _, rfl, _⟩ := h; rfl) | (obtain ⟨_, _, _, _, _, _, _, _, _, _, _, rfl, _⟩ := h; rfl) | (obtain ⟨_, _, _, _, _, _, _, _, _, _, _, _, rfl, _⟩ := h; rfl) | (obtain ⟨_, _, _, _, _, _, _, _, _, _, _, _, _, rfl, _⟩ := h; rfl) | (obtain ⟨_, _, _, _, _, _, _, _, _, _, _, _, _, _, rfl, _⟩ := h; rfl) | (obtain ⟨_, _, _, _, _, _, _, _, _, _, _, _, _, _, _, rfl, _⟩ := h; rfl)) (fun cdv A' outer s H vs Q E hr h => ⟨t__law_slots K A, ?_, rd__law_slots h⟩)
  unfold t__law_slots
  exact (pss_cons (ps_set (i := 1) sc__law_slots.nd rfl (Or.inl rfl) (pe_lst pa_nil))
  (pss_cons (ps_set (i := 2) sc__law_slots.nd rfl (Or.inl rfl) pe_int)
  (pss_cons (ps_for PassesOwn.never rfl (i_rng1 (pi_range1 (by rfl) T.n_range (pa_cons pe_int pa_nil))) (pg_name (i := 3) sc__law_slots.nd rfl (Or.inl rfl))
    (pss_cons (ps_set (i := 4) sc__law_slots.nd rfl (Or.inl rfl) (pe_ix ix_seq (pe_lst (pa_cons pe_int (pa_cons pe_int (pa_cons pe_int pa_nil)))) (pe_call (ok__law_draw T) (hr.mono (by decide)) (by rfl) T.m__law_draw T.F__law_draw.kp T.b__law_draw .nil pass0 (pa_cons (pn 0) (pa_cons pe_int pa_nil))) (fun _ _ => rfl)))
  (pss_cons (ps_set (i := 5) sc__law_slots.nd rfl (Or.inl rfl) (pe_cmpR (o_eq hr.units) (pe_call (ok__law_draw T) (hr.mono (by decide)) (by rfl) T.m__law_draw T.F__law_draw.kp T.b__law_draw .nil pass0 (pa_cons (pn 0) (pa_cons pe_int pa_nil))) pe_int (nomark _)))
  (pss_cons (ps_set (i := 6) sc__law_slots.nd rfl (Or.inl rfl) (pe_call (ok__law_draw T) (hr.mono (by decide)) (by rfl) T.m__law_draw T.F__law_draw.kp T.b__law_draw .nil pass0 (pa_cons (pn 0) (pa_cons pe_int pa_nil))))
  (pss_cons (ps_for PassesOwn.never rfl (i_rng1 (pi_range1 (by rfl) T.n_range (pa_cons (pe_op o_add pe_int (pe_call (ok__law_draw T) (hr.mono (by decide)) (by rfl) T.m__law_draw T.F__law_draw.kp T.b__law_draw .nil pass0 (pa_cons (pn 0) (pa_cons pe_int pa_nil)))) pa_nil))) (pg_name (i := 7) sc__law_slots.nd rfl (Or.inl rfl))
    (pss_cons (ps_set (i := 8) sc__law_slots.nd rfl (Or.inl rfl) (pe_op o_add pe_int (pe_call (ok__law_draw T) (hr.mono (by decide)) (by rfl) T.m__law_draw T.F__law_draw.kp T.b__law_draw .nil pass0 (pa_cons (pn 0) (pa_cons (pe_op o_mul pe_int (pn 4)) pa_nil)))))
  (pss_one (p_if (m_test (pt_cmpR o_le (pe_op o_add (pn 6) (pn 8)) (pe_op o_mul pe_int (pn 4)) (nomark _)))
    (pss_cons (ps_expr (pe_bm PySem.F.plainAttrs_list PySem.F.slot_list_append PySem.F.type_list_append mt_append (pn 1) (pa_cons (pe_tup (pa_cons (pn 2) (pa_cons (pn 4) (pa_cons (pn 5) (pa_cons (pn 6) (pa_cons (pn 8) (pa_cons (pe_cmpR (o_eq hr.units) (pe_call (ok__law_draw T) (hr.mono (by decide)) (by rfl) T.m__law_draw T.F__law_draw.kp T.b__law_draw .nil pass0 (pa_cons (pn 0) (pa_cons pe_int pa_nil))) pe_int (nomark _)) pa_nil))))))) pa_nil)))
  (pss_one (ps_set (i := 6) sc__law_slots.nd rfl (Or.inl rfl) (pe_op o_add (pe_op o_add (pn 6) (pn 8)) (pe_call (ok__law_draw T) (hr.mono (by decide)) (by rfl) T.m__law_draw T.F__law_draw.kp T.b__law_draw .nil pass0 (pa_cons (pn 0) (pa_cons pe_int pa_nil)))))))
    pss_nil))))
  (pss_one (ps_set (i := 2) sc__law_slots.nd rfl (Or.inl rfl) (pe_op o_add (pn 2) (pn 4)))))))))
  (pss_one (ps_ret (pn 1))))))
theorem ok__law_free_bits (T : Top K mg A W) : FnOk P w K mg base CX0 1 W.a__law_free_bits W.d__law_free_bits ["_law_data", "_law_slots_here"] (sp__law_free_bits K A) := by
  refine T.F__law_free_bits.ok sc__law_free_bits (fun vs H Q E h => by first | (obtain ⟨rfl, _⟩ := h; rfl) | (obtain ⟨_, rfl, _⟩ := h; rfl) | (obtain ⟨_, _, rfl, _⟩ := h; rfl) | (obtain ⟨_, _, _, rfl, _⟩ := h; rfl) | (obtain ⟨_, _, _, _, rfl, _⟩ := h; rfl) | (obtain ⟨_, _, _, _, _, rfl, _⟩ := h; rfl) | (obtain ⟨_, _, _, _, _, _, rfl, _⟩ := h; rfl) | (obtain ⟨_, _, _, _, _, _, _, rfl, _⟩ := h; rfl) | (obtain ⟨_, _, _, _, _, _, _, _, rfl, _⟩ := h; rfl) | (obtain ⟨_, _, _, _, _, _, _, _, _, rfl, _⟩ := h; rfl) | (obtain ⟨_, _, _, _, _, _, _, _, _, _, rfl, _⟩ := h; rfl) | (obtain ⟨_, _, _, _, _, _, _, _, _, _, _, rfl, _⟩ := h; rfl) | (obtain ⟨_, _, _, _, _, _, _, _, _, _, _, _, rfl, _⟩ := h; rfl) | (obtain ⟨_, _, _, _, _, _, _, _, _, _, _, _, _, rfl, _⟩ := h; rfl) | (obtain ⟨_, _, _, _, _, _, _, _, _, _, _, _, _, _, rfl, _⟩ := h; rfl) | (obtain ⟨_, _, _, _, _, _, _, _, _, _, _, _, _, _, _, rfl, _⟩ := h; rfl)) (fun cdv A' outer s H vs Q E hr h => ⟨t__law_free_bits K A, ?_, rd__law_free_bits h⟩)
  unfold t__law_free_bits
  exact (pss_cons (ps_set (i := 2) sc__law_free_bits.nd rfl (Or.inl rfl) (pe_lst pa_nil))
  (pss_cons (ps_for PassesOwn.never rfl (i_list (pi_list (pn 1))) (pg_tup rfl (p_gcons (pg_name (i := 3) sc__law_free_bits.nd rfl (Or.inl rfl)) (p_gcons (pg_name (i := 4) sc__law_free_bits.nd rfl (Or.inl rfl)) (p_gcons (pg_name (i := 5) sc__law_free_bits.nd rfl (Or.inl rfl)) (p_gcons (pg_name (i := 6) sc__law_free_bits.nd rfl (Or.inl rfl)) (p_gcons (pg_name (i := 7) sc__law_free_bits.nd rfl (Or.inl rfl)) (p_gcons (pg_name (i := 8) sc__law_free_bits.nd rfl (Or.inl rfl)) p_gnil)))))))
    (pss_one (ps_for PassesOwn.never rfl (i_rng2 (pi_range2 (by rfl) T.n_range (pa_cons (pn 6) (pa_cons (pe_op o_add (pn 6) (pn 7)) pa_nil)))) (pg_name (i := 9) sc__law_free_bits.nd rfl (Or.inl rfl))
    (pss_cons (ps_set (i := 10) sc__law_free_bits.nd rfl (Or.inl rfl) (pe_op o_fdiv (pn 9) pe_int))
  (p_cut (p_if (p_truth (pn 5) (by intro _; rfl))
    (pss_one (ps_set (i := 10) sc__law_free_bits.nd rfl (Or.inl rfl) (pe_op o_sub (pe_op o_sub (pn 4) pe_int) (pn 10))))
    pss_nil)
  (pss_one (ps_expr (pe_bm PySem.F.plainAttrs_list PySem.F.slot_list_append PySem.F.type_list_append mt_append (pn 2) (pa_cons (pe_op o_add (pe_op o_mul (pe_op o_add (pn 3) (pn 10)) pe_int) (pe_op o_mod (pe_callTy c_int (by rfl) T.n_int (by decide +kernel) (pa_cons (pn 9) pa_nil)) pe_int)) pa_nil)))))))))
  (pss_cons (ps_set (i := 11) sc__law_free_bits.nd rfl (Or.inl rfl) (pe_lst pa_nil))
  (pss_cons (ps_for PassesOwn.never rfl (i_rng1 (pi_range1 (by rfl) T.n_range (pa_cons (pe_callB c_len (by rfl) T.n_len (by decide +kernel) (pa_cons (pn 0) pa_nil)) pa_nil))) (pg_name (i := 12) sc__law_free_bits.nd rfl (Or.inl rfl))
    (pss_cons (ps_set (i := 10) sc__law_free_bits.nd rfl (Or.inl rfl) (pe_ix ix_seq (pn 0) (pn 12) (fun _ _ => rfl)))
  (pss_one (ps_for PassesOwn.never rfl (i_rng1 (pi_range1 (by rfl) T.n_range (pa_cons pe_int pa_nil))) (pg_name (i := 9) sc__law_free_bits.nd rfl (Or.inl rfl))
    (p_cut (p_if (m_test (pt_cmpR (o_nin (u65 hr)) (pe_op o_add (pe_op o_mul pe_int (pn 12)) (pn 9)) (pn 2) rfl))
    (pss_one (ps_expr (pe_bm PySem.F.plainAttrs_list PySem.F.slot_list_append PySem.F.type_list_append mt_append (pn 11) (pa_cons (pe_op o_mod (pe_callTy c_int (by rfl) T.n_int (by decide +kernel) (pa_cons (pn 10) pa_nil)) pe_int) pa_nil))))
    pss_nil)
  (pss_one (ps_set (i := 10) sc__law_free_bits.nd rfl (Or.inl rfl) (pe_op o_fdiv (pn 10) pe_int))))))))
  (pss_one (ps_ret (pn 11)))))))
theorem ok_law (T : Top K mg A W) : FnG P w K mg base 4 W.a_law W.d_law ["_law_script"] (sp_law K A) := by
  refine okG T.F_law sc_law (fun vs H Q E h => by first | (obtain ⟨rfl, _⟩ := h; rfl) | (obtain ⟨_, rfl, _⟩ := h; rfl) | (obtain ⟨_, _, rfl, _⟩ := h; rfl) | (obtain ⟨_, _, _, rfl, _⟩ := h; rfl) | (obtain ⟨_, _, _, _, rfl, _⟩ := h; rfl) | (obtain ⟨_, _, _, _, _, rfl, _⟩ := h; rfl) | (obtain ⟨_, _, _, _, _, _, rfl, _⟩ := h; rfl) | (obtain ⟨_, _, _, _, _, _, _, rfl, _⟩ := h; rfl) | (obtain ⟨_, _, _, _, _, _, _, _, rfl, _⟩ := h; rfl) | (obtain ⟨_, _, _, _, _, _, _, _, _, rfl, _⟩ := h; rfl) | (obtain ⟨_, _, _, _, _, _, _, _, _, _, rfl, _⟩ := h; rfl) | (obtain ⟨_, _, _, _, _, _, _, _, _, _, _, rfl, _⟩ := h; rfl) | (obtain ⟨_, _, _, _, _, _, _, _, _, _, _, _, rfl, _⟩ := h; rfl) | (obtain ⟨_, _, _, _, _, _, _, _, _, _, _, _, _, rfl, _⟩ := h; rfl) | (obtain ⟨_, _, _, _, _, _, _, _, _, _, _, _, _, _, rfl, _⟩ := h; rfl) | (obtain ⟨_, _, _, _, _, _, _, _, _, _, _, _, _, _, _, rfl, _⟩ := h; rfl)) (fun cdv A' outer s H vs Q E hr hg h => ⟨t_law K A, ?_, rd_law h⟩)
  unfold t_law
  exact (pss_cons (ps_set (i := 1) sc_law.nd rfl (Or.inr rfl) (pe_lst (pa_cons (pe_call (ok__law_digits T) (hr.mono (by decide)) (by rfl) T.m__law_digits T.F__law_digits.kp T.b__law_digits .nil pass0 (pa_cons (pn 0) (pa_cons pe_int (pa_cons pe_int pa_nil)))) (pa_cons pe_int pa_nil))))
  (pss_cons (ps_set (i := 2) sc_law.nd rfl (Or.inl rfl) (pe_call (ok__law_slots T) (hr.mono (by decide)) (by rfl) T.m__law_slots T.F__law_slots.kp T.b__law_slots .nil pass0 (pa_cons (pn 1) pa_nil)))
  (pss_cons (ps_set (i := 3) sc_law.nd rfl (Or.inr rfl) (pe_lc (own := [("_law_k", 7)]) (g := (gName 7)) (tt := tYes) rfl sc_law.nd (i_rng1 (pi_range1 (by rfl) T.n_range (pa_cons pe_int pa_nil))) (blkOk_by (own := [("_law_k", 7)]) (N := nm_law) (sc := defScope s_law) (by decide +kernel)) (fun _ _ _ _ _ => (pg_name (i := 7) sc_law.nd rfl (Or.inl rfl))) (fun _ _ _ _ _ => pts_nil) (fun _ _ _ _ _ => (pe_call (ok__law_draw T) (hr.mono (by decide)) (by rfl) T.m__law_draw T.F__law_draw.kp T.b__law_draw .nil pass0 (pa_cons (pn 1) (pa_cons pe_int pa_nil))))))
  (pss_cons (ps_set (i := 4) sc_law.nd rfl (Or.inl rfl) (pe_call (ok__law_free_bits T) (hr.mono (by decide)) (by rfl) T.m__law_free_bits T.F__law_free_bits.kp T.b__law_free_bits .nil pass0 (pa_cons (pn 3) (pa_cons (pn 2) pa_nil))))
  (pss_cons (ps_setLc (i := 5) (own := [("_law_slot", 8)]) (g := (gName 8)) (tt := tYes) rfl sc_law.nd rfl rfl (sw_true rfl rfl rfl (by decide +kernel)) (i_list (pi_list (pn 2))) (blkOk_by (own := [("_law_slot", 8)]) (N := nm_law) (sc := defScope s_law) (by decide +kernel)) (fun _ _ _ _ _ => (pg_name (i := 8) sc_law.nd rfl (Or.inl rfl))) (fun _ _ _ _ _ => pts_nil) (fun _ _ _ _ _ => (pe_call (ok_read_slot T) (hr.mono (by decide)) (by rfl) T.m_read_slot T.F_read_slot.kp T.b_read_slot .nil pass0 (pa_cons (pn 3) (pa_cons (pe_ix ix_seq (pn 8) pe_int (fun _ _ => rfl)) (pa_cons (pe_ix ix_seq (pn 8) pe_int (fun _ _ => rfl)) (pa_cons (pe_ix ix_seq (pn 8) pe_int (fun _ _ => rfl)) (pa_cons (pe_ix ix_seq (pn 8) pe_int (fun _ _ => rfl)) (pa_cons (pe_ix ix_seq (pn 8) pe_int (fun _ _ => rfl)) (pa_cons (pe_ix ix_seq (pn 8) pe_int (fun _ _ => rfl)) pa_nil))))))))))
  (pss_cons (ps_for PassesOwn.never rfl (i_rng1 (pi_range1 (by rfl) T.n_range (pa_cons pe_int pa_nil))) (pg_name (i := 6) sc_law.nd rfl (Or.inl rfl))
    (p_cut (p_if (m_test (pt_cmpR o_gt (pe_callB c_len (by rfl) T.n_len (by decide +kernel) (pa_cons (pn 2) pa_nil)) pe_int (nomark _)))
    (pss_cons (ps_set (i := 7) sc_law.nd rfl (Or.inl rfl) (pe_op o_mod (pe_callTy c_int (by rfl) T.n_int (by decide +kernel) (pa_cons (pe_call (ok__law_draw T) (hr.mono (by decide)) (by rfl) T.m__law_draw T.F__law_draw.kp T.b__law_draw .nil pass0 (pa_cons (pn 1) (pa_cons pe_int pa_nil))) pa_nil)) (pe_callB c_len (by rfl) T.n_len (by decide +kernel) (pa_cons (pn 2) pa_nil))))
  (pss_cons (ps_set (i := 8) sc_law.nd rfl (Or.inl rfl) (pe_ix ix_seq (pn 2) (pn 7) (fun _ _ => rfl)))
  (pss_cons (ps_asg (pe_call (ok_bounds T) (hr.mono (by decide)) (by rfl) T.m_bounds T.F_bounds.kp T.b_bounds .nil pass0 (pa_cons (pe_ix ix_seq (pn 8) pe_int (fun _ _ => rfl)) (pa_cons (pe_ix ix_seq (pn 8) pe_int (fun _ _ => rfl)) pa_nil))) (pg_tup rfl (p_gcons (pg_name (i := 9) sc_law.nd rfl (Or.inl rfl)) (p_gcons (pg_name (i := 10) sc_law.nd rfl (Or.inl rfl)) p_gnil))))
  (pss_cons (ps_asg (pe_ix ix_seq (pe_lst (pa_cons (pn 9) (pa_cons (pn 10) (pa_cons (pe_op o_add (pn 9) (pe_op o_mod (pe_callTy c_int (by rfl) T.n_int (by decide +kernel) (pa_cons (pe_op o_mul (pe_call (ok__law_draw T) (hr.mono (by decide)) (by rfl) T.m__law_draw T.F__law_draw.kp T.b__law_draw .nil pass0 (pa_cons (pn 1) (pa_cons pe_int pa_nil))) pe_int) pa_nil)) (pe_op o_add (pe_op o_sub (pn 10) (pn 9)) pe_int))) pa_nil)))) (pe_call (ok__law_draw T) (hr.mono (by decide)) (by rfl) T.m__law_draw T.F__law_draw.kp T.b__law_draw .nil pass0 (pa_cons (pn 1) (pa_cons pe_int pa_nil))) (fun _ _ => rfl)) (pg_sub (pn 5) (pn 7) set_list))
  (pss_one (ps_expr (pe_call (ok_write_slot T) (hr.mono (by decide)) (by rfl) T.m_write_slot T.F_write_slot.kp T.b_write_slot .nil passL (pa_cons (pn 3) (pa_cons (pe_ix ix_seq (pn 8) pe_int (fun _ _ => rfl)) (pa_cons (pe_ix ix_seq (pn 8) pe_int (fun _ _ => rfl)) (pa_cons (pe_ix ix_seq (pn 8) pe_int (fun _ _ => rfl)) (pa_cons (pe_ix ix_seq (pn 8) pe_int (fun _ _ => rfl)) (pa_cons (pe_ix ix_seq (pn 8) pe_int (fun _ _ => rfl)) (pa_cons (pe_ix ix_seq (pn 8) pe_int (fun _ _ => rfl)) (pa_cons (pe_ix ix_seq (pn 5) (pn 7) (fun _ _ => rfl)) pa_nil)))))))))))))))
    pss_nil)
  (pss_cons (ps_setLc (i := 11) (own := [("_law_slot", 8)]) (g := (gName 8)) (tt := tYes) rfl sc_law.nd rfl rfl (sw_true rfl rfl rfl (by decide +kernel)) (i_list (pi_list (pn 2))) (blkOk_by (own := [("_law_slot", 8)]) (N := nm_law) (sc := defScope s_law) (by decide +kernel)) (fun _ _ _ _ _ => (pg_name (i := 8) sc_law.nd rfl (Or.inl rfl))) (fun _ _ _ _ _ => pts_nil) (fun _ _ _ _ _ => (pe_call (ok_read_slot T) (hr.mono (by decide)) (by rfl) T.m_read_slot T.F_read_slot.kp T.b_read_slot .nil pass0 (pa_cons (pn 3) (pa_cons (pe_ix ix_seq (pn 8) pe_int (fun _ _ => rfl)) (pa_cons (pe_ix ix_seq (pn 8) pe_int (fun _ _ => rfl)) (pa_cons (pe_ix ix_seq (pn 8) pe_int (fun _ _ => rfl)) (pa_cons (pe_ix ix_seq (pn 8) pe_int (fun _ _ => rfl)) (pa_cons (pe_ix ix_seq (pn 8) pe_int (fun _ _ => rfl)) (pa_cons (pe_ix ix_seq (pn 8) pe_int (fun _ _ => rfl)) pa_nil))))))))))
  (pss_one (p_if (PW.pt (pw_or (pt_not (p_truth (pe_callG (ok__law_list_is T) hg (hr.mono (by decide)) (by rfl) T.m__law_list_is T.F__law_list_is.kp T.b__law_list_is .nil (pa_cons (pn 11) (pa_cons (pn 5) pa_nil))) (by intro _; rfl))) (pw_or1 (m_test (pt_cmpR (o_ne hr.units) (pe_call (ok__law_free_bits T) (hr.mono (by decide)) (by rfl) T.m__law_free_bits T.F__law_free_bits.kp T.b__law_free_bits .nil pass0 (pa_cons (pn 3) (pa_cons (pn 2) pa_nil))) (pn 4) (nomark _))))))
    (pss_one (ps_ret pe_bl))
    pss_nil)))))
  (pss_one (ps_ret pe_bl))))))))
end
theorem all_mk {l : PySem.W.OpenLaw} {w : World} {K : PySem.W.Frag} {h : Heap} {mg : Str → Option Value} {fa : Addr} (X : K.In h) (G : h.Ns mainGlobals mg) (hfa : mg "law" = some (.ref fa))
    {f0 : Addr} {od0 an0 : Option Addr} {sl0 : Array (Option Value)} {oc0 kV0 dc0 pm0 cd0 ct0 : Value}
    (a0 : PySem.W.nsIn K mainGlobals "power" = some (some (.ref f0))) (l0 : K.lookup f0 = some ⟨oc0, od0, .func (PySem.W.fnOf "power" "power" (defArgs s_power) (defBody s_power) (defScope s_power) .none kV0 dc0 pm0 an0 cd0 ct0), sl0⟩) (c0 : PySem.W.codeIn K cd0 "power" = true) (k0 : PySem.W.keepIn K (.ref f0) = true)
    {f1 : Addr} {od1 an1 : Option Addr} {sl1 : Array (Option Value)} {oc1 kV1 dc1 pm1 cd1 ct1 : Value}
    (a1 : PySem.W.nsIn K mainGlobals "bounds" = some (some (.ref f1))) (l1 : K.lookup f1 = some ⟨oc1, od1, .func (PySem.W.fnOf "bounds" "bounds" (defArgs s_bounds) (defBody s_bounds) (defScope s_bounds) .none kV1 dc1 pm1 an1 cd1 ct1), sl1⟩) (c1 : PySem.W.codeIn K cd1 "bounds" = true) (k1 : PySem.W.keepIn K (.ref f1) = true)
    {f2 : Addr} {od2 an2 : Option Addr} {sl2 : Array (Option Value)} {oc2 kV2 dc2 pm2 cd2 ct2 : Value}
    (a2 : PySem.W.nsIn K mainGlobals "word_number" = some (some (.ref f2))) (l2 : K.lookup f2 = some ⟨oc2, od2, .func (PySem.W.fnOf "word_number" "word_number" (defArgs s_word_number) (defBody s_word_number) (defScope s_word_number) .none kV2 dc2 pm2 an2 cd2 ct2), sl2⟩) (c2 : PySem.W.codeIn K cd2 "word_number" = true) (k2 : PySem.W.keepIn K (.ref f2) = true)
    {f3 : Addr} {od3 an3 : Option Addr} {sl3 : Array (Option Value)} {oc3 kV3 dc3 pm3 cd3 ct3 : Value}
    (a3 : PySem.W.nsIn K mainGlobals "put_word_number" = some (some (.ref f3))) (l3 : K.lookup f3 = some ⟨oc3, od3, .func (PySem.W.fnOf "put_word_number" "put_word_number" (defArgs s_put_word_number) (defBody s_put_word_number) (defScope s_put_word_number) .none kV3 dc3 pm3 an3 cd3 ct3), sl3⟩) (c3 : PySem.W.codeIn K cd3 "put_word_number" = true) (k3 : PySem.W.keepIn K (.ref f3) = true)
    {f4 : Addr} {od4 an4 : Option Addr} {sl4 : Array (Option Value)} {oc4 kV4 dc4 pm4 cd4 ct4 : Value}
    (a4 : PySem.W.nsIn K mainGlobals "read_slot" = some (some (.ref f4))) (l4 : K.lookup f4 = some ⟨oc4, od4, .func (PySem.W.fnOf "read_slot" "read_slot" (defArgs s_read_slot) (defBody s_read_slot) (defScope s_read_slot) .none kV4 dc4 pm4 an4 cd4 ct4), sl4⟩) (c4 : PySem.W.codeIn K cd4 "read_slot" = true) (k4 : PySem.W.keepIn K (.ref f4) = true)
    {f5 : Addr} {od5 an5 : Option Addr} {sl5 : Array (Option Value)} {oc5 kV5 dc5 pm5 cd5 ct5 : Value}
    (a5 : PySem.W.nsIn K mainGlobals "write_slot" = some (some (.ref f5))) (l5 : K.lookup f5 = some ⟨oc5, od5, .func (PySem.W.fnOf "write_slot" "write_slot" (defArgs s_write_slot) (defBody s_write_slot) (defScope s_write_slot) .none kV5 dc5 pm5 an5 cd5 ct5), sl5⟩) (c5 : PySem.W.codeIn K cd5 "write_slot" = true) (k5 : PySem.W.keepIn K (.ref f5) = true)
    {f6 : Addr} {od6 an6 : Option Addr} {sl6 : Array (Option Value)} {oc6 kV6 dc6 pm6 cd6 ct6 : Value}
    (a6 : PySem.W.nsIn K mainGlobals "_law_cell" = some (some (.ref f6))) (l6 : K.lookup f6 = some ⟨oc6, od6, .func (PySem.W.fnOf "_law_cell" "_law_cell" (defArgs s__law_cell) (defBody s__law_cell) (defScope s__law_cell) .none kV6 dc6 pm6 an6 cd6 ct6), sl6⟩) (c6 : PySem.W.codeIn K cd6 "_law_cell" = true) (k6 : PySem.W.keepIn K (.ref f6) = true)
    {f7 : Addr} {od7 an7 : Option Addr} {sl7 : Array (Option Value)} {oc7 kV7 dc7 pm7 cd7 ct7 : Value}
    (a7 : PySem.W.nsIn K mainGlobals "_law_list_is" = some (some (.ref f7))) (l7 : K.lookup f7 = some ⟨oc7, od7, .func (PySem.W.fnOf "_law_list_is" "_law_list_is" (defArgs s__law_list_is) (defBody s__law_list_is) (defScope s__law_list_is) .none kV7 dc7 pm7 an7 cd7 ct7), sl7⟩) (c7 : PySem.W.codeIn K cd7 "_law_list_is" = true) (k7 : PySem.W.keepIn K (.ref f7) = true)
    {f8 : Addr} {od8 an8 : Option Addr} {sl8 : Array (Option Value)} {oc8 kV8 dc8 pm8 cd8 ct8 : Value}
    (a8 : PySem.W.nsIn K mainGlobals "_law_digits" = some (some (.ref f8))) (l8 : K.lookup f8 = some ⟨oc8, od8, .func (PySem.W.fnOf "_law_digits" "_law_digits" (defArgs s__law_digits) (defBody s__law_digits) (defScope s__law_digits) .none kV8 dc8 pm8 an8 cd8 ct8), sl8⟩) (c8 : PySem.W.codeIn K cd8 "_law_digits" = true) (k8 : PySem.W.keepIn K (.ref f8) = true)
    {f9 : Addr} {od9 an9 : Option Addr} {sl9 : Array (Option Value)} {oc9 kV9 dc9 pm9 cd9 ct9 : Value}
    (a9 : PySem.W.nsIn K mainGlobals "_law_draw" = some (some (.ref f9))) (l9 : K.lookup f9 = some ⟨oc9, od9, .func (PySem.W.fnOf "_law_draw" "_law_draw" (defArgs s__law_draw) (defBody s__law_draw) (defScope s__law_draw) .none kV9 dc9 pm9 an9 cd9 ct9), sl9⟩) (c9 : PySem.W.codeIn K cd9 "_law_draw" = true) (k9 : PySem.W.keepIn K (.ref f9) = true)
    {f10 : Addr} {od10 an10 : Option Addr} {sl10 : Array (Option Value)} {oc10 kV10 dc10 pm10 cd10 ct10 : Value}
    (a10 : PySem.W.nsIn K mainGlobals "_law_slots" = some (some (.ref f10))) (l10 : K.lookup f10 = some ⟨oc10, od10, .func (PySem.W.fnOf "_law_slots" "_law_slots" (defArgs s__law_slots) (defBody s__law_slots) (defScope s__law_slots) .none kV10 dc10 pm10 an10 cd10 ct10), sl10⟩) (c10 : PySem.W.codeIn K cd10 "_law_slots" = true) (k10 : PySem.W.keepIn K (.ref f10) = true)
    {f11 : Addr} {od11 an11 : Option Addr} {sl11 : Array (Option Value)} {oc11 kV11 dc11 pm11 cd11 ct11 : Value}
    (a11 : PySem.W.nsIn K mainGlobals "_law_free_bits" = some (some (.ref f11))) (l11 : K.lookup f11 = some ⟨oc11, od11, .func (PySem.W.fnOf "_law_free_bits" "_law_free_bits" (defArgs s__law_free_bits) (defBody s__law_free_bits) (defScope s__law_free_bits) .none kV11 dc11 pm11 an11 cd11 ct11), sl11⟩) (c11 : PySem.W.codeIn K cd11 "_law_free_bits" = true) (k11 : PySem.W.keepIn K (.ref f11) = true)
    {f12 : Addr} {od12 an12 : Option Addr} {sl12 : Array (Option Value)} {oc12 kV12 dc12 pm12 cd12 ct12 : Value}
    (a12 : PySem.W.nsIn K mainGlobals "law" = some (some (.ref f12))) (l12 : K.lookup f12 = some ⟨oc12, od12, .func (PySem.W.fnOf "law" "law" (defArgs s_law) (defBody s_law) (defScope s_law) .none kV12 dc12 pm12 an12 cd12 ct12), sl12⟩) (c12 : PySem.W.codeIn K cd12 "law" = true) (k12 : PySem.W.keepIn K (.ref f12) = true)
    (z0 : PySem.W.nsIn K mainGlobals "int" = some none)
    (z1 : PySem.W.nsIn K mainGlobals "isinstance" = some none)
    (z2 : PySem.W.nsIn K mainGlobals "len" = some none)
    (z3 : PySem.W.nsIn K mainGlobals "list" = some none)
    (z4 : PySem.W.nsIn K mainGlobals "range" = some none)
    (z5 : PySem.W.nsIn K mainGlobals "repr" = some none)
    {C_OutOfRange : Addr}
    (g_OutOfRange : PySem.W.nsIn K mainGlobals "OutOfRange" = some (some (.ref C_OutOfRange)))
    (r_x_OutOfRange : PySem.W.excIn K C_OutOfRange [.type "ValueError", .type "Exception", .type "BaseException", .type "object"] "ValueError.__new__" = true)
    (r_k_OutOfRange : PySem.W.keepIn K (.ref C_OutOfRange) = true)
    (r_bb_OutOfRange : PySem.W.subIn K (.ref C_OutOfRange) (.type "BaseException") = some true)
    (r_tt_OutOfRange : PySem.W.typeIn K (.ref C_OutOfRange) = some (.type "type"))
    : ∃ fd : FuncData, (∀ (s : Shared) (v : Value), BindsTo s fd ⟨[v], []⟩ [("_law_script", v)]) ∧ ∀ base : Heap, K.In base → base.Ns mainGlobals mg → FnG l.prog w K mg base 4 fa fd ["_law_script"] (sp_law K A0) := by
  have e := hfa.symm.trans (PySem.W.mg_of X G a12)
  cases e
  have F0 := fun_mk (st := s_power) l0 c0 k0
  have b0 := F0.binds (ps := ["exponent"]) fun _ _ _ _ _ _ us hl => match us, hl with | [_], _ => rfl
  have F1 := fun_mk (st := s_bounds) l1 c1 k1
  have b1 := F1.binds (ps := ["width", "signed"]) fun _ _ _ _ _ _ us hl => match us, hl with | [_, _], _ => rfl
  have F2 := fun_mk (st := s_word_number) l2 c2 k2
  have b2 := F2.binds (ps := ["data", "offset", "size", "big"]) fun _ _ _ _ _ _ us hl => match us, hl with | [_, _, _, _], _ => rfl
  have F3 := fun_mk (st := s_put_word_number) l3 c3 k3
  have b3 := F3.binds (ps := ["data", "offset", "size", "big", "number"]) fun _ _ _ _ _ _ us hl => match us, hl with | [_, _, _, _, _], _ => rfl
  have F4 := fun_mk (st := s_read_slot) l4 c4 k4
  have b4 := F4.binds (ps := ["data", "offset", "size", "big", "first", "width", "signed"]) fun _ _ _ _ _ _ us hl => match us, hl with | [_, _, _, _, _, _, _], _ => rfl
  have F5 := fun_mk (st := s_write_slot) l5 c5 k5
  have b5 := F5.binds (ps := ["data", "offset", "size", "big", "first", "width", "signed", "value"]) fun _ _ _ _ _ _ us hl => match us, hl with | [_, _, _, _, _, _, _, _], _ => rfl
  have F6 := fun_mk (st := s__law_cell) l6 c6 k6
  have b6 := F6.binds (ps := ["_law_script", "_law_k"]) fun _ _ _ _ _ _ us hl => match us, hl with | [_, _], _ => rfl
  have F7 := fun_mk (st := s__law_list_is) l7 c7 k7
  have b7 := F7.binds (ps := ["_law_actual", "_law_due"]) fun _ _ _ _ _ _ us hl => match us, hl with | [_, _], _ => rfl
  have F8 := fun_mk (st := s__law_digits) l8 c8 k8
  have b8 := F8.binds (ps := ["_law_script", "_law_first", "_law_last"]) fun _ _ _ _ _ _ us hl => match us, hl with | [_, _, _], _ => rfl
  have F9 := fun_mk (st := s__law_draw) l9 c9 k9
  have b9 := F9.binds (ps := ["_law_box", "_law_many"]) fun _ _ _ _ _ _ us hl => match us, hl with | [_, _], _ => rfl
  have F10 := fun_mk (st := s__law_slots) l10 c10 k10
  have b10 := F10.binds (ps := ["_law_box"]) fun _ _ _ _ _ _ us hl => match us, hl with | [_], _ => rfl
  have F11 := fun_mk (st := s__law_free_bits) l11 c11 k11
  have b11 := F11.binds (ps := ["_law_data", "_law_slots_here"]) fun _ _ _ _ _ _ us hl => match us, hl with | [_, _], _ => rfl
  have F12 := fun_mk (st := s_law) l12 c12 k12
  have b12 := F12.binds (ps := ["_law_script"]) fun _ _ _ _ _ _ us hl => match us, hl with | [_], _ => rfl
  have T : Top K mg ⟨0, 0, 0, C_OutOfRange, 0, 0, 0, 0, 0, 0, 0, 0⟩ ⟨_, _, _, _, _, _, _, _, _, _, _, _, _, _, _, _, _, _, _, _, _, _, _, _, _, _⟩ := ⟨F0, b0, PySem.W.mg_of X G a0, F1, b1, PySem.W.mg_of X G a1, F2, b2, PySem.W.mg_of X G a2, F3, b3, PySem.W.mg_of X G a3, F4, b4, PySem.W.mg_of X G a4, F5, b5, PySem.W.mg_of X G a5, F6, b6, PySem.W.mg_of X G a6, F7, b7, PySem.W.mg_of X G a7, F8, b8, PySem.W.mg_of X G a8, F9, b9, PySem.W.mg_of X G a9, F10, b10, PySem.W.mg_of X G a10, F11, b11, PySem.W.mg_of X G a11, F12, b12, PySem.W.mg_of X G a12, PySem.W.mg_none_of X G z0, PySem.W.mg_none_of X G z1, PySem.W.mg_none_of X G z2, PySem.W.mg_none_of X G z3, PySem.W.mg_none_of X G z4, PySem.W.mg_none_of X G z5, PySem.W.mg_of X G g_OutOfRange, r_x_OutOfRange, r_k_OutOfRange, r_bb_OutOfRange, r_tt_OutOfRange⟩
  exact ⟨_, fun s v => .of_eq rfl, fun base _ _ => ok_law T⟩
end Rs
open PySem PySem.W PyProof.Rows
set_option maxRecDepth 100000 in
set_option maxHeartbeats 0 in
theorem PySem.Challenge.cw_recstore_k01_slots_apart_holds : PySem.Challenge.rw_recstore_k01_slots_apart.Holds := by
  w_on; o_law; k_head; (case hw => w_witness2)
  k_fill
  refine Rs.walk_ofG (l := PySem.Challenge.rw_recstore_k01_slots_apart) (n := 63) (k := 4) (x := "_law_script") (sp := fun K => Rs.sp_law K Rs.A0) rfl (by decide) rfl ⟨rfl, by decide, by decide⟩ (fun w h Y => PySem.W.kIn_of Y) ?F (fun _ _ a ns _ _ _ hS => ⟨a, ns, rfl, hS, fun _ => rfl⟩)
  case F =>
    intro w mg fa h KX G hmg
    refine' Rs.all_mk KX G hmg ?a0 ?l0 ?c0 ?k0 ?a1 ?l1 ?c1 ?k1 ?a2 ?l2 ?c2 ?k2 ?a3 ?l3 ?c3 ?k3 ?a4 ?l4 ?c4 ?k4 ?a5 ?l5 ?c5 ?k5 ?a6 ?l6 ?c6 ?k6 ?a7 ?l7 ?c7 ?k7 ?a8 ?l8 ?c8 ?k8 ?a9 ?l9 ?c9 ?k9 ?a10 ?l10 ?c10 ?k10 ?a11 ?l11 ?c11 ?k11 ?a12 ?l12 ?c12 ?k12 ?z0 ?z1 ?z2 ?z3 ?z4 ?z5 ?g_OutOfRange ?r_x_OutOfRange ?r_k_OutOfRange ?r_bb_OutOfRange ?r_tt_OutOfRange
    (case a0 => k_is); (case l0 => k_is); (case c0 => k_is); (case k0 => k_is); (case a1 => k_is); (case l1 => k_is); (case c1 => k_is); (case k1 => k_is)
    (case a2 => k_is); (case l2 => k_is); (case c2 => k_is); (case k2 => k_is); (case a3 => k_is); (case l3 => k_is); (case c3 => k_is); (case k3 => k_is)
    (case a4 => k_is); (case l4 => k_is); (case c4 => k_is); (case k4 => k_is); (case a5 => k_is); (case l5 => k_is); (case c5 => k_is); (case k5 => k_is)
    (case a6 => k_is); (case l6 => k_is); (case c6 => k_is); (case k6 => k_is); (case a7 => k_is); (case l7 => k_is); (case c7 => k_is); (case k7 => k_is)
    (case a8 => k_is); (case l8 => k_is); (case c8 => k_is); (case k8 => k_is); (case a9 => k_is); (case l9 => k_is); (case c9 => k_is); (case k9 => k_is)
    (case a10 => k_is); (case l10 => k_is); (case c10 => k_is); (case k10 => k_is); (case a11 => k_is); (case l11 => k_is); (case c11 => k_is); (case k11 => k_is)
    (case a12 => k_is); (case l12 => k_is); (case c12 => k_is); (case k12 => k_is); (case z0 => k_is); (case z1 => k_is); (case z2 => k_is); (case z3 => k_is)
    (case z4 => k_is); (case z5 => k_is); (case g_OutOfRange => k_is); (case r_x_OutOfRange => k_exc); (case r_k_OutOfRange => k_is); (case r_bb_OutOfRange => k_is); (case r_tt_OutOfRange => k_is)
