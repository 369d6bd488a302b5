import PyProof.Rows.All
import Wide.All
import OpenK.AllK
import Wide.FinOn
import HandS.Small
import HandS.ForMost
import HandS.Exc
import HandS.TryOnly
import HandS.ExcOwn
import HandS.WordsExc
import HandS.IsInst
import HandS.Wide
import HandS.TupAny
import HandS.Flow
import HandS.RaiseMore
import HandS.Deep
import HandS.EndBits
import HandS.Style
import HandS.ExcIs
import PySem.Challenge.RW_recstore_k09_blocks_exact
set_option Elab.async false
set_option linter.all false
set_option maxRecDepth 100000
set_option maxHeartbeats 8000000
namespace Rs
open PySem PySem.Spec PyProof.Rows L2

/-! ### what is known of a heap: a ledger -/
mutual
/-- data that never changes -/
inductive Im (K : PySem.W.Frag) (H : Hp) : V → PyData → Prop
  | non : Im K H .non .none
  | bl (b : Bool) : Im K H (.bl b) (.bool b)
  | int (i : Int) : Im K H (.int i) (.int i)
  | str (x : Str) : Im K H (.str x) (.str x)
  | tup {a : Addr} {xs : List V} {ds : List PyData} : SqT K H a xs → Ims K H xs ds → Im K H (.ref a) (.tuple ds)
inductive Ims (K : PySem.W.Frag) (H : Hp) : List V → List PyData → Prop
  | nil : Ims K H [] []
  | cons {v : V} {vs : List V} {d : PyData} {ds : List PyData} : Im K H v d → Ims K H vs ds → Ims K H (v :: vs) (d :: ds)
end
/-- an entry: a thing, or a list of data that never changes -/
inductive Ent | raw (o : HO) | dl (ds : List PyData)
def EntAt (K : PySem.W.Frag) (H : Hp) (a : Addr) : Ent → Prop
  | .raw o => H a = some o
  | .dl ds => ∃ xs, H a = some (.lst xs) ∧ Ims K H xs ds
/-- all is as it was, but at S -/
def KBs (H H' : Hp) (S : List Addr) : Prop := ∀ b o, H b = some o → b ∉ S → H' b = some o
/-- no tuple stands at S -/
def NoT (H : Hp) (S : List Addr) : Prop := ∀ a ∈ S, ∀ xs, H a ≠ some (.tup xs) ∧ ∀ o, H a ≠ some (.frz o (.tup xs))
section
variable {K : PySem.W.Frag} {H H' : Hp} {S : List Addr}
theorem KBs.refl : KBs H H S := fun _ _ h _ => h
theorem KBs.trans {H1 H2 : Hp} (a : KBs H H1 S) (b : KBs H1 H2 S) : KBs H H2 S := fun c o h n => b c o (a c o h n) n
theorem KBs.mono {T : List Addr} (a : KBs H H' S) (h : ∀ x ∈ S, x ∈ T) : KBs H H' T := fun c o e n => a c o e fun m => n (h c m)
theorem KBs.of (a : Same H H') : KBs H H' S := fun c o e _ => a c o e
theorem KBs.same (a : KBs H H' []) : Same H H' := fun c o e => a c o e (by simp)
theorem sqT_keep {a : Addr} {xs : List V} (k : KBs H H' S) (n : NoT H S) (h : SqT K H a xs) : SqT K H' a xs := by
  rcases h with (h | ⟨o, h⟩) | h
  · refine .inl (.inl (k _ _ h fun m => ?_))
    exact (n a m xs).1 h
  · refine .inl (.inr ⟨o, k _ _ h fun m => ?_⟩)
    exact (n a m xs).2 o h
  · exact .inr h

mutual
theorem Im.keep (k : KBs H H' S) (n : NoT H S) : ∀ {v : V} {d : PyData}, Im K H v d → Im K H' v d
  | _, _, .non => .non
  | _, _, .bl b => .bl b
  | _, _, .int i => .int i
  | _, _, .str x => .str x
  | _, _, .tup h hs => .tup (sqT_keep k n h) (Ims.keep k n hs)
theorem Ims.keep (k : KBs H H' S) (n : NoT H S) : ∀ {vs : List V} {ds : List PyData}, Ims K H vs ds → Ims K H' vs ds
  | _, _, .nil => .nil
  | _, _, .cons h hs => .cons (Im.keep k n h) (Ims.keep k n hs)
end
theorem NoT.nil : NoT H [] := fun _ h => by cases h
theorem Im.same (k : Same H H') {v : V} {d : PyData} (h : Im K H v d) : Im K H' v d := Im.keep (S := []) (KBs.of k) NoT.nil h
theorem Ims.same (k : Same H H') {v : List V} {d : List PyData} (h : Ims K H v d) : Ims K H' v d := Ims.keep (S := []) (KBs.of k) NoT.nil h
theorem Ims.len : ∀ {vs : List V} {ds : List PyData}, Ims K H vs ds → vs.length = ds.length
  | _, _, .nil => rfl
  | _, _, .cons _ h => by rw [List.length_cons, List.length_cons, Ims.len h]
theorem Ims.get : ∀ {vs : List V} {ds : List PyData} {i : Nat} {v : V}, Ims K H vs ds → vs[i]? = some v → ∃ d, ds[i]? = some d ∧ Im K H v d
  | _, _, i, v, .nil, e => by simp at e
  | _, _, 0, v, .cons h _, e => by
    have e' := Option.some.inj e
    subst e'
    exact ⟨_, rfl, h⟩
  | _, _, i + 1, v, .cons _ h, e => Ims.get (i := i) h e
theorem Ims.get' : ∀ {vs : List V} {ds : List PyData} {i : Nat} {d : PyData}, Ims K H vs ds → ds[i]? = some d → ∃ v, vs[i]? = some v ∧ Im K H v d
  | _, _, i, v, .nil, e => by simp at e
  | _, _, 0, v, .cons h _, e => by
    have e' := Option.some.inj e
    subst e'
    exact ⟨_, rfl, h⟩
  | _, _, i + 1, v, .cons _ h, e => Ims.get' (i := i) h e
theorem Ims.app : ∀ {vs ws : List V} {ds es : List PyData}, Ims K H vs ds → Ims K H ws es → Ims K H (vs ++ ws) (ds ++ es)
  | _, _, _, _, .nil, h => h
  | _, _, _, _, .cons a b, h => .cons a (Ims.app b h)
theorem Ims.one {v : V} {d : PyData} (h : Im K H v d) : Ims K H [v] [d] := .cons h .nil
theorem Ims.ints : ∀ {vs : List V} {ns : List Int}, Ims K H vs (ns.map PyData.int) → vs = ns.map V.int
  | _, [], .nil => rfl
  | _, n :: ns, .cons h t => by
    cases h
    rw [Ims.ints t]
    rfl
theorem Ims.of_ints : ∀ ns : List Int, Ims K H (ns.map V.int) (ns.map PyData.int)
  | [] => .nil
  | n :: ns => .cons (.int n) (Ims.of_ints ns)
theorem Ims.take (n : Nat) : ∀ {vs : List V} {ds : List PyData}, Ims K H vs ds → Ims K H (vs.take n) (ds.take n) := by
  induction n with
  | zero => intro vs ds _; exact .nil
  | succ n ih =>
    intro vs ds h
    cases h with
    | nil => exact .nil
    | cons a b => exact .cons a (ih b)
theorem Ims.drop (n : Nat) : ∀ {vs : List V} {ds : List PyData}, Ims K H vs ds → Ims K H (vs.drop n) (ds.drop n) := by
  induction n with
  | zero => intro vs ds h; exact h
  | succ n ih =>
    intro vs ds h
    cases h with
    | nil => exact .nil
    | cons a b => exact ih b
mutual
theorem Im.dp : ∀ {v : V} {d : PyData}, Im K H v d → Dp K H v d
  | _, _, .non => .non
  | _, _, .bl b => .bl b
  | _, _, .int i => .int i
  | _, _, .str x => .str x
  | _, _, .tup h hs => .tup h (Ims.dp hs)
theorem Ims.dp : ∀ {vs : List V} {ds : List PyData}, Ims K H vs ds → DpAll K H vs ds
  | _, _, .nil => .nil
  | _, _, .cons h hs => .cons (Im.dp h) (Ims.dp hs)
end
/-- what the entry tells stays -/
theorem EntAt.keep {a : Addr} {e : Ent} (k : KBs H H' S) (n : NoT H S) (ha : a ∉ S) (h : EntAt K H a e) : EntAt K H' a e := by
  cases e with
  | raw o => exact k _ _ h ha
  | dl ds =>
    obtain ⟨xs, h1, h2⟩ := h
    exact ⟨xs, k _ _ h1 ha, h2.keep k n⟩
theorem EntAt.some {a : Addr} {e : Ent} (h : EntAt K H a e) : ∃ o, H a = some o := by
  cases e with
  | raw o => exact ⟨o, h⟩
  | dl ds =>
    obtain ⟨xs, h1, _⟩ := h
    exact ⟨_, h1⟩
end

/-- the ledger: H0 the heap at the entry, S what may have changed of it since; L: what is known of lists and objects, I: of data -/
structure Led (K : PySem.W.Frag) (H0 : Hp) (S : List Addr) (H : Hp) (L : List (Addr × Ent)) (I : List (V × PyData)) : Prop where
  nd : (L.map (·.1)).Nodup
  at_ : ∀ (n : Nat) a e, L[n]? = some (a, e) → EntAt K H a e
  im : ∀ (n : Nat) v d, I[n]? = some (v, d) → Im K H v d
  kp : KBs H0 H S
section
variable {K : PySem.W.Frag} {H0 H H' : Hp} {S : List Addr} {L : List (Addr × Ent)} {I : List (V × PyData)}
theorem Led.start : Led K H S H [] [] := ⟨List.nodup_nil, fun n a e h => by simp at h, fun n v d h => by simp at h, KBs.refl⟩
theorem Led.raw (h : Led K H0 S H L I) (n : Nat) {a : Addr} {o : HO} (e : L[n]? = some (a, .raw o)) : H a = some o := h.at_ n a _ e
/-- fresh now is fresh at the entry -/
theorem fresh0 (h : KBs H0 H S) {p : Addr} (hs : p ∉ S) (e : H p = none) : H0 p = none := by
  cases q : H0 p with
  | none => rfl
  | some o =>
    rw [h p o q hs] at e
    cases e
theorem Led.notin (h : Led K H0 S H L I) {p : Addr} (e : H p = none) : p ∉ L.map (·.1) := fun m => by
  obtain ⟨⟨a, x⟩, h1, h2⟩ := List.mem_map.mp m
  obtain ⟨n, hn, h3⟩ := List.getElem_of_mem h1
  have h4 : L[n]? = some (a, x) := by rw [List.getElem?_eq_getElem hn, h3]
  obtain ⟨o, h5⟩ := (h.at_ n a x h4).some
  have h6 : a = p := h2
  subst h6
  rw [h5] at e
  cases e
theorem Led.same (h : Led K H0 S H L I) (k : Same H H') : Led K H0 S H' L I :=
  ⟨h.nd, fun n a e q => (h.at_ n a e q).keep (S := []) (KBs.of k) NoT.nil (by simp), fun n v d q => (h.im n v d q).same k, h.kp.trans (KBs.of k)⟩
/-- a new entry -/
theorem Led.new (h : Led K H0 S H L I) (k : Same H H') {p : Addr} {e : Ent} (hn : H p = none) (he : EntAt K H' p e) : Led K H0 S H' ((p, e) :: L) I := by
  have h1 := h.same k
  refine ⟨?_, fun n a x q => ?_, h1.im, h1.kp⟩
  · rw [List.map_cons, List.nodup_cons]
    exact ⟨h.notin hn, h.nd⟩
  · cases n with
    | zero =>
      have q' := Option.some.inj q
      cases q'
      exact he
    | succ n => exact h1.at_ n a x q
theorem same_new {p : Addr} {o : HO} (h : H p = none) : Same H (upd H p o) := fun b x e => by
  rw [upd_ne (ne_of_none e h)]
  exact e
theorem Led.alloc (h : Led K H0 S H L I) {p : Addr} {o : HO} (hn : H p = none) : Led K H0 S (upd H p o) ((p, .raw o) :: L) I := h.new (same_new hn) hn upd_same
theorem Led.allocD (h : Led K H0 S H L I) {p : Addr} {xs : List V} {ds : List PyData} (hn : H p = none) (hd : Ims K H xs ds) : Led K H0 S (upd H p (.lst xs)) ((p, .dl ds) :: L) I :=
  h.new (same_new hn) hn ⟨xs, upd_same, hd.same (same_new hn)⟩
/-- a new fact on data -/
theorem Led.imNew (h : Led K H0 S H L I) {v : V} {d : PyData} (hi : Im K H v d) : Led K H0 S H L ((v, d) :: I) :=
  ⟨h.nd, h.at_, fun n x y q => by
    cases n with
    | zero =>
      have q' := Option.some.inj q
      cases q'
      exact hi
    | succ n => exact h.im n x y q, h.kp⟩
theorem Led.allocT (h : Led K H0 S H L I) {p : Addr} {xs : List V} {ds : List PyData} (hn : H p = none) (hd : Ims K H xs ds) : Led K H0 S (upd H p (.tup xs)) L ((.ref p, .tuple ds) :: I) :=
  (h.same (same_new hn)).imNew (.tup (SqT.of upd_same) (hd.same (same_new hn)))
def isMut : HO → Bool
  | .tup _ => false
  | .frz _ _ => false
  | _ => true
theorem NoT.one {a : Addr} {o : HO} (h : H a = some o) (hm : isMut o = true) : NoT H [a] := fun b hb xs => by
  have e : b = a := by simpa using hb
  subst e
  refine ⟨fun q => ?_, fun u q => ?_⟩
  · rw [h] at q
    cases q
    exact Bool.false_ne_true hm
  · rw [h] at q
    cases q
    exact Bool.false_ne_true hm
/-- the n-th entry changes -/
theorem Led.wr (h : Led K H0 S H L I) (n : Nat) {a : Addr} {e e' : Ent} {o : HO} (q : L[n]? = some (a, e)) (k : KBs H H' [a]) (ho : H a = some o) (hm : isMut o = true) (he : EntAt K H' a e') (hs : H0 a = none ∨ a ∈ S) : Led K H0 S H' (L.set n (a, e')) I := by
  have hN := NoT.one ho hm
  have hn : n < L.length := (List.getElem?_eq_some_iff.mp q).1
  refine ⟨?_, fun m b x r => ?_, fun m v d r => (h.im m v d r).keep k hN, fun b x r hb => ?_⟩
  · have e2 : (L.set n (a, e')).map (·.1) = L.map (·.1) := by
      rw [List.map_set]
      refine List.ext_getElem? fun i => ?_
      by_cases hi : n = i
      · subst hi
        rw [List.getElem?_set_self (by rw [List.length_map]; exact hn), List.getElem?_map, q]
        rfl
      · rw [List.getElem?_set_ne hi]
    rw [e2]
    exact h.nd
  · by_cases hm' : n = m
    · subst hm'
      rw [List.getElem?_set_self hn] at r
      cases r
      exact he
    · rw [List.getElem?_set_ne hm'] at r
      refine (h.at_ m b x r).keep k hN fun hb => ?_
      have e3 : b = a := by simpa using hb
      subst e3
      have r1 : (L.map (·.1))[m]? = some b := by
        rw [List.getElem?_map, r]
        rfl
      have r2 : (L.map (·.1))[n]? = some b := by
        rw [List.getElem?_map, q]
        rfl
      exact hm' (nd_ix h.nd r2 r1)
  · refine k b x (h.kp b x r hb) fun z => ?_
    have e3 : b = a := by simpa using z
    subst e3
    rcases hs with hs | hs
    · rw [r] at hs
      cases hs
    · exact hb hs
/-- entries that are no longer wanted -/
theorem Led.take (h : Led K H0 S H L I) (L' : List (Addr × Ent)) (I' : List (V × PyData)) (f : List Nat) (g : List Nat) (hf : f.Nodup) (h1 : L'.length = f.length) (h2 : ∀ (i n : Nat), f[i]? = some n → L'[i]? = L[n]?) (h3 : I'.length = g.length) (h4 : ∀ (i n : Nat), g[i]? = some n → I'[i]? = I[n]?) : Led K H0 S H L' I' := by
  have nth : ∀ (i : Nat) a e, L'[i]? = some (a, e) → ∃ n, f[i]? = some n ∧ L[n]? = some (a, e) := fun i a e q => by
    have hi : i < f.length := by rw [← h1]; exact (List.getElem?_eq_some_iff.mp q).1
    refine ⟨f[i], List.getElem?_eq_getElem hi, ?_⟩
    rw [← h2 i f[i] (List.getElem?_eq_getElem hi)]
    exact q
  refine ⟨?_, fun i a e q => ?_, fun i v d q => ?_, h.kp⟩
  · refine List.pairwise_iff_getElem.mpr fun i j hi' hj' hij e => ?_
    have hi : i < L'.length := by rw [← List.length_map (f := (·.1))]; exact hi'
    have hj : j < L'.length := by rw [← List.length_map (f := (·.1))]; exact hj'
    obtain ⟨n, fn, ln⟩ := nth i L'[i].1 L'[i].2 (List.getElem?_eq_getElem hi)
    obtain ⟨m, fm, lm⟩ := nth j L'[j].1 L'[j].2 (List.getElem?_eq_getElem hj)
    have ea : L'[i].1 = L'[j].1 := by
      rw [List.getElem_map, List.getElem_map] at e
      exact e
    have r1 : (L.map (·.1))[n]? = some L'[i].1 := by
      rw [List.getElem?_map, ln]
      rfl
    have r2 : (L.map (·.1))[m]? = some L'[i].1 := by
      rw [List.getElem?_map, lm, ea]
      rfl
    have en := nd_ix h.nd r1 r2
    subst en
    exact absurd (nd_ix hf fn fm) (Nat.ne_of_lt hij)
  · obtain ⟨n, _, ln⟩ := nth i a e q
    exact h.at_ n a e ln
  · have hi : i < g.length := by rw [← h3]; exact (List.getElem?_eq_some_iff.mp q).1
    have q2 := h4 i g[i] (List.getElem?_eq_getElem hi)
    rw [q] at q2
    exact h.im _ v d q2.symm
end

abbrev RCall := List V → Hp → VK → Prop
abbrev RSl := V → Option Int → Option Int → Hp → VK → Prop
abbrev RMt := V → List V → Hp → VK → Prop
theorem u65 {k : Nat} {A : Around} (r : Room k A) : A.units + 65 < cLine := by have := r.un; omega

/-! ### readings that compute -/
def lk : L2.St → Nat → Option V
  | [], _ => none
  | x :: _, 0 => x
  | _ :: σ, n + 1 => lk σ n
theorem lk_get : ∀ {σ : L2.St} {i : Nat} {v : V}, lk σ i = some v → σ[i]? = some (some v)
  | [], _, _, h => nomatch h
  | x :: _, 0, v, h => by
    have h' : x = some v := h
    rw [h']
    rfl
  | _ :: σ, n + 1, v, h => lk_get (σ := σ) (i := n) h
def mV (i : Nat) : TE := fun σ H Q => match lk σ i with
  | some v => Q v H
  | none => False
theorem mV_ok {i : Nat} {σ : L2.St} {H : Hp} {Q : VK} (h : mV i σ H Q) : tVar i σ H Q := by
  unfold mV at h
  cases e : lk σ i with
  | none => rw [e] at h; exact h.elim
  | some v => rw [e] at h; exact ⟨v, lk_get e, h⟩
def rOr (r s : R2) : R2 := fun x y H Q => r x y H Q ∨ s x y H Q
/-- two ints -/
def mI (c : Int → Int → Prop) (f : Int → Int → V) : R2 := fun x y H Q => match x, y with
  | .int i, .int j => c i j ∧ Q (f i j) H
  | _, _ => False
def mI0 (f : Int → Int → V) : R2 := fun x y H Q => match x, y with
  | .int i, .int j => Q (f i j) H
  | _, _ => False
def hAdd (K : PySem.W.Frag) : R2 := fun x y H Q => rCat x y H Q ∨ rCatA K x y H Q
def mAdd (K : PySem.W.Frag) : R2 := fun x y H Q => match x, y with
  | .int i, .int j => Q (.int (i + j)) H
  | .str a, .str b => a.length + b.length ≤ sizeLine ∧ Q (.str (a ++ b)) H
  | .ref a, .ref b => hAdd K (.ref a) (.ref b) H Q
  | _, _ => False
def mSub : R2 := mI0 fun i j => .int (i - j)
def mMul : R2 := fun x y H Q => match x, y with
  | .int i, .int j => CMul i j ∧ Q (.int (i * j)) H
  | .ref a, .int j => rRep (.ref a) (.int j) H Q
  | _, _ => False
def mFdiv : R2 := mI CDivW fun i j => .int (i / j)
def mMod : R2 := mI (fun _ j => 0 < j) fun i j => .int (i % j)
def mPow : R2 := mI CPow fun i j => .int (i ^ j.toNat)
def mShl : R2 := mI CPow fun i j => .int (i * 2 ^ j.toNat)
def mShr : R2 := mI (fun _ j => 0 ≤ j) fun i j => .int (i / 2 ^ j.toNat)
def mLt : R2 := mI0 fun i j => .bl (decide (i < j))
def mLe : R2 := mI0 fun i j => .bl (decide (i ≤ j))
def mGt : R2 := mI0 fun i j => .bl (decide (j < i))
def mGe : R2 := mI0 fun i j => .bl (decide (j ≤ i))
def hEq (K : PySem.W.Frag) : R2 := rOr rEq (rEqD K)
def mEq (K : PySem.W.Frag) : R2 := fun x y H Q => match x, y with
  | .int i, .int j => Q (.bl (decide (i = j))) H
  | .str i, .str j => Q (.bl (decide (i = j))) H
  | .bl i, .bl j => Q (.bl (decide (i = j))) H
  | .non, .non => Q (.bl true) H
  | .str _, .non => Q (.bl false) H
  | .int _, .non => Q (.bl false) H
  | .non, .str _ => Q (.bl false) H
  | .non, .int _ => Q (.bl false) H
  | x, y => hEq K x y H Q
def hNe (K : PySem.W.Frag) : R2 := rOr rNe (rNeD K)
def mNe (K : PySem.W.Frag) : R2 := fun x y H Q => match x, y with
  | .int i, .int j => Q (.bl (!decide (i = j))) H
  | .str i, .str j => Q (.bl (!decide (i = j))) H
  | .bl i, .bl j => Q (.bl (!decide (i = j))) H
  | .non, .non => Q (.bl false) H
  | .str _, .non => Q (.bl true) H
  | .int _, .non => Q (.bl true) H
  | .non, .str _ => Q (.bl true) H
  | .non, .int _ => Q (.bl true) H
  | x, y => hNe K x y H Q
def mIsN : R2 := fun x y H Q => match y with
  | .non => Q (.bl (match x with | .non => true | _ => false)) H
  | _ => False
def mNotN : R2 := fun x y H Q => match y with
  | .non => Q (.bl (match x with | .non => false | _ => true)) H
  | _ => False
def mNeg : V → Hp → VK → Prop := fun x H Q => match x with
  | .int i => Q (.int (-i)) H
  | _ => False
/-- a Bool is wanted -/
def toB (Q : Bool → Hp → Prop) (x : V) (H : Hp) : Prop := match x with
  | .bl b => Q b H
  | _ => False
def mTest (t : TE) : TT := fun σ H Q => t σ H (toB Q)
def hTru (K : PySem.W.Frag) (x : V) (H : Hp) (Q : Bool → Hp → Prop) : Prop := ∃ k, TruV K x H k ∧ Q k H
def mTr (K : PySem.W.Frag) (t : TE) : TT := fun σ H Q => t σ H fun x H1 => match x with
  | .bl b => Q b H1
  | .int i => Q (i != 0) H1
  | .non => Q false H1
  | x => hTru K x H1 Q
def toV (Q : Bool → Hp → Prop) : VK := fun x H => match x with
  | .bl b => Q b H
  | _ => False
def mAndV (ta tb : TE) : TE := fun σ H Q => ta σ H (toB fun c H1 => if c = true then tb σ H1 Q else Q (.bl false) H1)
def mOrV (ta tb : TE) : TE := fun σ H Q => ta σ H (toB fun c H1 => if c = true then Q (.bl true) H1 else tb σ H1 Q)
def mNotV (ta : TE) : TE := fun σ H Q => ta σ H (toB fun c H1 => Q (.bl (!c)) H1)
def mInt : RCall := fun xs H Q => match xs with
  | [.int i] => Q (.int i) H
  | [.bl b] => Q (.int (if b then 1 else 0)) H
  | _ => False
def mPart (t : TE) : TO := fun σ H Q => t σ H fun x H1 => match x with
  | .int i => Q (some i) H1
  | _ => False
/-- an if, its test known: the ways -/
def Br (b : Bool) (t u : TS) (D : Ends) (σ : L2.St) (H : Hp) : Prop := if b = true then t D σ H else u D σ H
def BrE (b : Bool) (t u : TE) (Q : VK) (σ : L2.St) (H : Hp) : Prop := if b = true then t σ H Q else u σ H Q
def mIf (c : TT) (t u : TS) : TS := fun D σ H => c σ H fun b H1 => Br b t u D σ H1
def mIfE (c : TT) (t u : TE) : TE := fun σ H Q => c σ H fun b H1 => BrE b t u Q σ H1
def mAug (i : Nat) (te : TE) (r : R2) : TS := fun D σ H => match lk σ i with
  | some x => te σ H fun y H1 => r x y H1 fun z H2 => D.nx (σ.set i (some z)) H2
  | none => False
def uSl (K : PySem.W.Frag) : RSl := fun x lo hi H Q => rSlL K x lo hi H Q ∨ rSlA K x lo hi H Q ∨ rSlS x lo hi H Q
def uIn (K : PySem.W.Frag) : R2 := rOr (rIn K false) (rInD K)
def uNin (K : PySem.W.Frag) : R2 := rOr (rIn K true) (rNotInD K)
def hLen (K : PySem.W.Frag) : RCall := fun xs H Q => ∃ x n, xs = [x] ∧ LenV K x H n ∧ Q (.int (n : Nat)) H
def hListOf (K : PySem.W.Frag) : RCall := fun xs H Q => ∃ p ys, xs = [.ref p] ∧ (SqL K H p ys ∨ SqT K H p ys) ∧ ∀ l, H l = none → Q (.ref l) (upd H l (.lst ys))
def hTupOf (K : PySem.W.Frag) : RCall := fun xs H Q => ∃ p ys, xs = [.ref p] ∧ ((SqL K H p ys ∧ ∀ l, H l = none → Q (.ref l) (upd H l (.tup ys))) ∨ (SqT K H p ys ∧ Q (.ref p) H))
/-- repr of data -/
def hRepr (K : PySem.W.Frag) : RCall := fun xs H Q => ∃ x d, xs = [x] ∧ Dp K H x d ∧ d.showable = true ∧ d.hasDict = false ∧ d.depth ≤ 60 ∧ d.shown.length ≤ sizeLine ∧ Q (.str d.shown) H
def mAbs : RCall := fun xs H Q => match xs with
  | [.int i] => Q (.int (if i < 0 then -i else i)) H
  | _ => False

/-! ### their rules -/
section
variable {X : Cx}
theorem PE.weak {e : Expr} {t t' : TE} (h : PE X e t) (w : ∀ σ H Q, t' σ H Q → t σ H Q) : PE X e t' := ⟨fun pins s σ H Q I hw => h.run pins s σ H Q I (w σ H Q hw)⟩
theorem PT.weak {e : Expr} {t t' : TT} (h : PT X e t) (w : ∀ σ H Q, t' σ H Q → t σ H Q) : PT X e t' := ⟨fun pins s σ H Q I hw => h.run pins s σ H Q I (w σ H Q hw)⟩
theorem PS.weak {st : Stmt} {t t' : TS} (h : PS X st t) (w : ∀ D σ H, t' D σ H → t D σ H) : PS X st t' := ⟨fun pins s σ H D I hw => h.run pins s σ H D I (w D σ H hw)⟩
theorem OpR.weak {f : Value → Value → Sem Value} {r r' : R2} (h : OpR X f r) (w : ∀ x y H Q, r' x y H Q → r x y H Q) : OpR X f r' := fun pins s σ H x y v u Q I a b hw => h pins s σ H x y v u Q I a b (w x y H Q hw)
theorem OpR.or {f : Value → Value → Sem Value} {r s : R2} (h1 : OpR X f r) (h2 : OpR X f s) : OpR X f (rOr r s) := fun pins sh σ H x y v u Q I a b h => h.elim (h1 pins sh σ H x y v u Q I a b) (h2 pins sh σ H x y v u Q I a b)
theorem CallR.weak {f : Value} {r r' : RCall} (h : CallR X f r) (w : ∀ xs H Q, r' xs H Q → r xs H Q) : CallR X f r' := fun pins s σ H xs us Q I a hw => h pins s σ H xs us Q I a (w xs H Q hw)
theorem SlR.or {r s : RSl} (h1 : SlR X r) (h2 : SlR X s) : SlR X (fun x lo hi H Q => r x lo hi H Q ∨ s x lo hi H Q) := fun pins sh σ H x v vl vu lo hi sl Q I rx hs pl pu h =>
  h.elim (h1 pins sh σ H x v vl vu lo hi sl Q I rx hs pl pu) (h2 pins sh σ H x v vl vu lo hi sl Q I rx hs pl pu)
/-- the name in slot i -/
theorem pn (i : Nat) {x : Str} {pos : Pos} (hN : X.N[i]? = some x := by rfl) (hv : Vis X.env.scope x := by first | exact Or.inl rfl | exact Or.inr (Or.inl rfl) | exact Or.inr (Or.inr rfl)) (hd : (x == ("__debug__" : Str)) = false := by decide)
    (hcd : (x == ("__classdict__" : Str)) = false := by decide) : PE X (.Name x pos) (mV i) := PE.weak (pe_var hN hv hd hcd) fun _ _ _ h => mV_ok h
theorem mI_ok {c : Int → Int → Prop} {f : Int → Int → V} {x y : V} {H : Hp} {Q : VK} (h : mI c f x y H Q) : rI c f x y H Q := by
  cases x <;> cases y <;> first | exact h.elim | exact ⟨_, _, rfl, rfl, h.1, h.2⟩
theorem mI0_ok {f : Int → Int → V} {x y : V} {H : Hp} {Q : VK} (h : mI0 f x y H Q) : rI0 f x y H Q := by
  cases x <;> cases y <;> first | exact h.elim | exact ⟨_, _, rfl, rfl, h⟩
theorem o_add : OpR X (binaryOp .Add) (mAdd X.K) := OpR.weak (OpR.or op_add (OpR.or op_add_str (OpR.or op_cat op_catA))) fun x y H Q h => by
  cases x <;> cases y <;> first | exact h.elim | exact .inl ⟨_, _, rfl, rfl, h⟩ | exact .inr (.inl ⟨_, _, rfl, rfl, h.1, h.2⟩) | exact .inr (.inr h)
theorem o_sub : OpR X (binaryOp .Sub) mSub := OpR.weak op_sub fun _ _ _ _ h => mI0_ok h
theorem o_mul : OpR X (binaryOp .Mult) mMul := OpR.weak (OpR.or op_mul op_rep) fun x y H Q h => by
  cases x <;> cases y <;> first | exact h.elim | exact .inl ⟨_, _, rfl, rfl, h.1, h.2⟩ | exact .inr h
theorem o_fdiv : OpR X (binaryOp .FloorDiv) mFdiv := OpR.weak op_fdivW fun _ _ _ _ h => mI_ok h
theorem o_mod : OpR X (binaryOp .Mod) mMod := OpR.weak op_mod fun _ _ _ _ h => mI_ok h
theorem o_pow : OpR X (binaryOp .Pow) mPow := OpR.weak op_pow fun _ _ _ _ h => mI_ok h
theorem o_shl : OpR X (binaryOp .LShift) mShl := OpR.weak op_shl fun _ _ _ _ h => mI_ok h
theorem o_shr : OpR X (binaryOp .RShift) mShr := OpR.weak op_shr fun _ _ _ _ h => mI_ok h
theorem o_lt : OpR X (compareOp .Lt) mLt := OpR.weak op_lt fun _ _ _ _ h => mI0_ok h
theorem o_le : OpR X (compareOp .LtE) mLe := OpR.weak op_le fun _ _ _ _ h => mI0_ok h
theorem o_gt : OpR X (compareOp .Gt) mGt := OpR.weak op_gt fun _ _ _ _ h => mI0_ok h
theorem o_ge : OpR X (compareOp .GtE) mGe := OpR.weak op_ge fun _ _ _ _ h => mI0_ok h
theorem dec_of {α β : Type} [DecidableEq α] [DecidableEq β] (f : α → β) (inj : ∀ a b, f a = f b → a = b) (a b : α) : decide (f a = f b) = decide (a = b) := by
  by_cases h : a = b
  · rw [h, decide_eq_true rfl, decide_eq_true rfl]
  · rw [decide_eq_false h, decide_eq_false fun e => h (inj a b e)]
theorem o_eq (hu : X.A.units + 64 < cLine) : OpR X (compareOp .Eq) (mEq X.K) := OpR.weak (OpR.or op_eq (op_eqD hu)) fun x y H Q h => by
  cases x <;> cases y <;>
    first
      | exact h
      | exact .inl ⟨rfl, by rw [dec_of V.int fun a b e => V.int.inj e]; exact h⟩
      | exact .inl ⟨rfl, by rw [dec_of V.str fun a b e => V.str.inj e]; exact h⟩
      | exact .inl ⟨rfl, by rw [dec_of V.bl fun a b e => V.bl.inj e]; exact h⟩
      | exact .inl ⟨rfl, h⟩
theorem o_ne (hu : X.A.units + 64 < cLine) : OpR X (compareOp .NotEq) (mNe X.K) := OpR.weak (OpR.or op_ne (op_neD hu)) fun x y H Q h => by
  cases x <;> cases y <;>
    first
      | exact h
      | exact .inl ⟨rfl, by rw [dec_of V.int fun a b e => V.int.inj e]; exact h⟩
      | exact .inl ⟨rfl, by rw [dec_of V.str fun a b e => V.str.inj e]; exact h⟩
      | exact .inl ⟨rfl, by rw [dec_of V.bl fun a b e => V.bl.inj e]; exact h⟩
      | exact .inl ⟨rfl, h⟩
theorem o_isN : OpR X (compareOp .Is) mIsN := OpR.weak op_isN fun x y H Q h => by
  cases y <;> first | exact h.elim | (refine ⟨rfl, ?_⟩; cases x <;> exact h)
theorem o_notN : OpR X (compareOp .IsNot) mNotN := OpR.weak op_notN fun x y H Q h => by
  cases y <;> first | exact h.elim | (refine ⟨rfl, ?_⟩; cases x <;> exact h)
theorem o_in (hu : X.A.units + 65 < cLine) : OpR X (compareOp .In) (uIn X.K) := OpR.or op_in_seq (op_inD hu)
theorem o_nin (hu : X.A.units + 65 < cLine) : OpR X (compareOp .NotIn) (uNin X.K) := OpR.or op_notIn_seq (op_notInD hu)
theorem o_neg : UnR X (unaryOp .USub) mNeg := fun pins s σ H x v Q I r h => un_neg pins s σ H x v Q I r (by
  cases x <;> first | exact h.elim | exact ⟨_, rfl, h⟩)
theorem o_sl : SlR X (uSl X.K) := SlR.or sl_list (SlR.or sl_tupA sl_str)
theorem toB_ok {Q : Bool → Hp → Prop} {x : V} {H : Hp} (h : toB Q x H) : ∃ k, x = .bl k ∧ Q k H := by
  cases x <;> first | exact h.elim | exact ⟨_, rfl, h⟩
theorem toB_eq (Q : Bool → Hp → Prop) : toB Q = fun x H => ∃ k, x = .bl k ∧ Q k H := by
  funext x H
  refine propext ⟨toB_ok, fun h => ?_⟩
  obtain ⟨k, rfl, q⟩ := h
  exact q
theorem m_test {e : Expr} {t : TE} (h : PT X e (tTest t)) : PT X e (mTest t) := PT.weak h fun σ H Q q => by
  unfold mTest at q
  rw [toB_eq] at q
  exact q
theorem tru_eq {K : PySem.W.Frag} (Q : Bool → Hp → Prop) : (fun (x : V) (H1 : Hp) => match x with
  | .bl b => Q b H1
  | .int i => Q (i != 0) H1
  | .non => Q false H1
  | x => hTru K x H1 Q) = fun x H' => ∃ k, TruV K x H' k ∧ Q k H' := by
  funext x H
  refine propext ?_
  cases x <;>
    first
      | exact Iff.rfl
      | exact ⟨fun h => ⟨_, rfl, h⟩, fun ⟨k, e, q⟩ => by cases (show k = _ from e); exact q⟩
theorem p_truth {a : Expr} {ta : TE} (h : PE X a ta) (he : ∀ whole, isTrue a X.env whole = (do let v ← whole; standAt a.pos; holding [v] (truthy v))) : PT X a (mTr X.K ta) := PT.weak (pt_truth h he) fun σ H Q q => by
  unfold mTr at q
  rw [tru_eq] at q
  exact q
theorem p_or {op : BoolOp} {a b : Expr} {rest : List Expr} {ta tb : TE} {pos : Pos} (ha : PE X a ta) (hb : PE X (.BoolOp .Or (b :: rest) pos) tb) : PE X (.BoolOp .Or (a :: b :: rest) pos) (mOrV ta tb) := PE.weak (pe_or ha hb) fun σ H Q q => by
  unfold mOrV at q
  rw [toB_eq] at q
  exact q
theorem p_and {a b : Expr} {rest : List Expr} {ta tb : TE} {pos : Pos} (ha : PE X a ta) (hb : PE X (.BoolOp .And (b :: rest) pos) tb) : PE X (.BoolOp .And (a :: b :: rest) pos) (mAndV ta tb) := PE.weak (pe_and ha hb) fun σ H Q q => by
  unfold mAndV at q
  rw [toB_eq] at q
  exact q
theorem p_not {a : Expr} {ta : TE} {pos : Pos} (ha : PE X a ta) : PE X (.UnaryOp .Not a pos) (mNotV ta) := PE.weak (pe_not ha) fun σ H Q q => by
  unfold mNotV at q
  rw [toB_eq] at q
  exact q
theorem p_if {c : Expr} {a b : List Stmt} {tc : TT} {t u : TS} {pos : Pos} (hc : PT X c tc) (ha : PSs X a t) (hb : PSs X b u) : PS X (.If c a b pos) (mIf tc t u) := ps_if hc ha hb
theorem p_ifE {c a b : Expr} {tA : TT} {ta tb : TE} {pos : Pos} (hc : PT X c tA) (ha : PE X a ta) (hb : PE X b tb) : PE X (.IfExp c a b pos) (mIfE tA ta tb) := pe_ifExp hc ha hb
theorem part_eq (Q : Option Int → Hp → Prop) : (fun (x : V) (H1 : Hp) => match x with
  | .int i => Q (some i) H1
  | _ => False) = fun x H1 => ∃ i, x = .int i ∧ Q (some i) H1 := by
  funext x H
  refine propext ?_
  cases x <;>
    first
      | exact ⟨fun h => ⟨_, rfl, h⟩, fun ⟨k, e, q⟩ => by cases e; exact q⟩
      | exact ⟨fun h => False.elim h, fun ⟨k, e, q⟩ => nomatch e⟩
theorem p_some {e : Expr} {t : TE} (h : PE X e t) : PO X (some e) (mPart t) := by
  have q := po_some h
  have e2 : tPart t = mPart t := by
    funext σ H Q
    unfold tPart mPart
    rw [part_eq]
  rw [e2] at q
  exact q
theorem p_aug {i : Nat} {x : Str} {op : Operator} {e : Expr} {te : TE} {r : R2} {pos pos' : Pos} (hN : X.N.Nodup) (hi : X.N[i]? = some x) (hx : Loc X.env.scope x) (he : PE X e te) (ho : PIp X op r)
    (hd : (x == ("__debug__" : Str)) = false := by decide) (hcd : (x == ("__classdict__" : Str)) = false := by decide)
    (hf : X.fn x = true ∨ X.env.scope.names.lookup x = some .local := by first | exact .inl rfl | exact .inr rfl | assumption) : PS X (.AugAssign (.Name x pos') op e pos) (mAug i te r) := PS.weak (ps_aug hN hi hx he ho (hf := hf)) fun D σ H q => by
  unfold mAug at q
  cases e2 : lk σ i with
  | none =>
    rw [e2] at q
    exact q.elim
  | some v =>
    rw [e2] at q
    exact ⟨v, lk_get e2, q⟩
def mIAdd : R2 := fun x y H Q => match x, y with
  | .int i, .int j => Q (.int (i + j)) H
  | .str a, .str b => a.length + b.length ≤ sizeLine ∧ Q (.str (a ++ b)) H
  | _, _ => False
theorem i_add : PIp X .Add mIAdd := fun pins s σ H x y v u Q I rx ry h => by
  cases x <;> cases y <;>
    first
      | exact h.elim
      | exact iop_add pins s σ H _ _ v u Q I rx ry ⟨_, _, rfl, rfl, h⟩
      | exact iop_add_str pins s σ H _ _ v u Q I rx ry ⟨_, _, rfl, rfl, h.1, h.2⟩
theorem i_sub : PIp X .Sub mSub := fun pins s σ H x y v u Q I rx ry h => iop_sub pins s σ H x y v u Q I rx ry (mI0_ok h)
theorem c_len : CallR X (.builtin "len") (hLen X.K) := call_len
theorem c_int : CallR X (.type "int") mInt := CallR.weak call_int1 fun xs H Q h => by
  unfold mInt at h
  split at h
  · exact .inl ⟨_, rfl, h⟩
  · exact .inr ⟨_, rfl, h⟩
  · exact h.elim
theorem c_abs : CallR X (.builtin "abs") mAbs := CallR.weak call_abs fun xs H Q h => by
  unfold mAbs at h
  split at h
  · exact ⟨_, rfl, h⟩
  · exact h.elim
theorem c_list : CallR X (.type "list") (hListOf X.K) := call_list_of
theorem c_tuple : CallR X (.type "tuple") (hTupOf X.K) := call_tuple_of
theorem c_isi : CallR X (.builtin "isinstance") (rIsi X.K) := call_isi
theorem c_repr (hg : X.A.guards = some []) (hu : X.A.units + 64 < cLine) : CallR X (.builtin "repr") (hRepr X.K) := by
  intro pins s σ H xs us Q I r h
  obtain ⟨x, d, rfl, hd, hs, hn, hz, hl, q⟩ := h
  obtain ⟨u, rfl, rx⟩ := vals1 r
  obtain ⟨as, rd⟩ := Dp.reads I d x u hd rx
  cases hd with
  | int i =>
    obtain ⟨t, rfl⟩ := rx
    refine PySem.P.repr_of_int ?_ ⟨.str _, H, I.tok _, ⟨_, rfl⟩, ?_⟩
    · exact of_decide_eq_true (by simpa [PyData.showable] using hs)
    · simpa [PyData.shown] using q
  | lst h1 h2 =>
    cases rx
    exact repr_of_reads' rd hs (PyData.noDict_hsm hn) hg (by omega) (fun _ _ e => e) (fun h' u tk hk => ⟨.str _, H, I.kept hk, ⟨_, rfl⟩, q⟩) hl
  | tup h1 h2 =>
    cases rx
    exact repr_of_reads' rd hs (PyData.noDict_hsm hn) hg (by omega) (fun _ _ e => e) (fun h' u tk hk => ⟨.str _, H, I.kept hk, ⟨_, rfl⟩, q⟩) hl
  | non =>
    cases rx
    exact PySem.P.repr_of_none ⟨.str _, H, I.tok _, ⟨_, rfl⟩, by simpa [PyData.shown] using q⟩
  | bl b =>
    cases rx
    exact PySem.P.repr_of_bool ⟨.str _, H, I.tok _, ⟨_, rfl⟩, by simpa [PyData.shown] using q⟩
  | str z =>
    obtain ⟨t, rfl⟩ := rx
    exact PySem.P.repr_of_str ⟨.str _, H, I.tok _, ⟨_, rfl⟩, by simpa [PyData.shown] using q⟩ (by simpa [PyData.shown] using hl)
end

/-! ### defs that are called where no repr is under way -/
structure FnG (P : Program) (w : World) (K : PySem.W.Frag) (mg : Str → Option Value) (base : Heap) (k : Nat) (f : Addr) (fd : FuncData) (ps : List Str) (sp : Sp) : Prop where
  len : ∀ vs H Q E, sp vs H Q E → vs.length = ps.length
  go : ∀ (A : Around) (outer : List Env) (s : Shared) (H : Hp) (args : Args) (us : List Value) (vs : List V) (Q : VK) (E : XK), Room k A → A.guards = some [] →
    Env0 P w K mg base A outer s H → BindsTo s fd args (ps.zip us) → Vals vs us → sp vs H Q E → codeAny (model P w) A (.call (.ref f) args) (CR CX0 outer P w H s Q E) s
section
variable {P : Program} {w : World} {K : PySem.W.Frag} {mg : Str → Option Value} {base : Heap}
theorem okG {x qual : Str} {st : Stmt} {f : Addr} {fd : FuncData} {N ps : List Str} {k : Nat} {sp : Sp} (F : Fun K x qual st f fd) (S : FnScope N ps (defScope st))
    (len : ∀ vs H Q E, sp vs H Q E → vs.length = ps.length)
    (body : ∀ (cdv : Value) (A : Around) (outer : List Env) (s : Shared) (H : Hp) (vs : List V) (Q : VK) (E : XK), Room k (A.deeper (envOfC qual (defScope st) s.heap.objs.size f cdv)) →
      (A.deeper (envOfC qual (defScope st) s.heap.objs.size f cdv)).guards = some [] → sp vs H Q E →
      ∃ t, PSs (cxOf CX0 P w K mg base N qual (defScope st) f cdv A outer s H E).nox (defBody st) t ∧ t { nx := fun _ H' => Q .non H', rt := Q } (start N vs) H) :
    FnG P w K mg base (k + 1) f fd ps sp := by
  obtain ⟨oc, od, kV, doc, pm, an, cdv, ct, osl, efd, lk, hcd⟩ := F.ex
  subst efd
  refine ⟨len, fun A outer s H args us vs Q E hr hg e0 hb r hsp => ?_⟩
  have hl := len vs H Q E hsp
  have hkeep : ∀ b o, base.get? b = some o → s.heap.get? b = some o := fun b o e => (e0.bs b o e).1
  have KX : K.In s.heap := e0.mod.kin.keeps hkeep
  have lim : s.heap.NoLimit := e0.mod.nolimit.keeps hkeep
  have kinds : ∀ y ∈ ps.zip us, (defScope st).names.lookup y.1 = some .local ∨
      ((defScope st).names.lookup y.1 = some .cell ∧ ((cellsFrom (s.heap.objs.size + 1) (defScope st).names []).lookup y.1).isSome = true) := fun ⟨n, v⟩ hy => by
    rcases S.par n (List.of_mem_zip hy).1 with q | q
    · exact .inl q
    · exact .inr ⟨q, PySem.W.cellsFrom_some _ _ _ (.inl q)⟩
  refine codeAny_call_function hr.depth (KX f _ lk) rfl S.co S.gen rfl (PySem.W.codeRec_of KX hcd) (hb _ _ _ _ ?_)
  refine wpAny_newFunctionEnv_cells S.kind kinds fun env he s1 x => ?_
  subst he
  refine ⟨lim.keeps x.toInCall.keep, codeAny_func ?_⟩
  obtain ⟨t, ht0, hq⟩ := body cdv A outer s H vs Q E (hr.deeper _) hg hsp
  have ht := ht0.nox
  have I := inv_start (CX := CX0) (E := E) S hr.hd e0 hl r x
  refine wpAny_mono (ht.run [] s1 (start N vs) H _ I hq) (fun fl s' hs => ?_) fun _ _ hs => hs
  have fin : ∀ (σ' : L2.St) (H' : Hp) (v : V) (u : Value), Inv (cxOf CX0 P w K mg base N qual (defScope st) f cdv A outer s H E) [] σ' H' s' → RelV v u → Q v H' → CE outer P w H s Q u s' :=
    fun σ' H' v u J rv q => ⟨v, H', J.os, J.bare, J.base, J.hok, rv, q⟩
  cases fl with
  | next =>
    obtain ⟨σ', H', J, q⟩ := hs
    exact fin σ' H' .non .none J rfl q
  | ret u =>
    obtain ⟨v, σ', H', J, rv, q⟩ := hs
    exact fin σ' H' v u J rv q
  | brk => exact hs.elim fun _ z => z.elim fun _ z => False.elim z.2
  | cont => exact hs.elim fun _ z => z.elim fun _ z => False.elim z.2
theorem FnG.of {k : Nat} {f : Addr} {fd : FuncData} {ps : List Str} {sp : Sp} (F : FnOk P w K mg base CX0 k f fd ps sp) : FnG P w K mg base k f fd ps sp :=
  ⟨F.len, fun A outer s H args us vs Q E hr _ => F.run A outer s H args us vs Q E hr⟩
end
section
variable {X : Cx} {k : Nat} {f : Addr} {fd : FuncData} {ps : List Str} {sp : Sp} {dvs : List V} {ds : List Value} {E : XK} {x : Str} {p pos : Pos} {e : Expr} {es : List Expr} {t : TA}
theorem runG {pins : List (Addr × Obj)} {σ : L2.St} {H : Hp} {s : Shared} {Q : VK} {us : List Value} {vs : List V} (F : FnG X.prog X.w X.K X.mg X.base k f fd ps sp) (hg : X.A.guards = some []) (hr : Room k X.A)
    (hb : Binds X.K fd ps ds) (hd : Vals dvs ds) (I : Inv X pins σ H s) (r : Vals vs us) (h : sp (vs ++ dvs) H Q E) : wpAny (model X.prog X.w) X.A (call (.ref f) us) (EP X pins σ Q) X.xe s := by
  have r2 : Vals (vs ++ dvs) (us ++ ds) := r.append hd
  have hl : (us ++ ds).length = ps.length := r2.length.symm.trans (F.len _ _ _ _ h)
  refine wpAny_call (codeAny_mono (F.go X.A X.stack s H ⟨us, []⟩ (us ++ ds) (vs ++ dvs) Q E hr hg I.env0 (hb s us I.kIn hl) r2 h) fun rr s' hq => ?_)
  match rr, hq with
  | .error _, hq => exact False.elim hq
  | .ok (.ret u), hq => exact I.after hq
  | .ok .next, hq => exact False.elim hq
  | .ok .brk, hq => exact False.elim hq
  | .ok .cont, hq => exact False.elim hq
theorem pe_callG (F : FnG X.prog X.w X.K X.mg X.base k f fd ps sp) (hg : X.A.guards = some []) (hr : Room k X.A) (hgl : Gl X x) (hm : X.mg x = some (.ref f)) (hk : PySem.W.keepIn X.K (.ref f) = true)
    (hb : Binds X.K fd ps ds) (hd : Vals dvs ds) (ha : PA X (e :: es) t) (hdb : (x == ("__debug__" : Str)) = false := by decide)
    (he : starEach (e :: es) X.env = (false, eval e X.env) :: starEach es X.env := by rfl) (hpl : (backTo pos (starEach es X.env)).any (·.1) = false := by rfl) :
    PE X (.Call (.Name x p) (e :: es) [] pos) (tCall sp dvs E t) :=
  ⟨fun pins s σ H Q I h => wpAny_Call_Name_kw (ld_glob I hgl hm
    (PySem.W.callWith_K (h₀ := X.base) I.ok.mod.kin hk (thn (ha.run pos pins s σ H _ I h) fun us s1 ⟨vs, H1, I1, r, q⟩ => ⟨I1.kIn, runG F hg hr hb hd I1 r q⟩) he hpl) hdb)⟩
end

/-! ### the law's end -/
/-- an abstract heap that knows the script alone -/
theorem law_callG {P : Program} {w : World} {K : PySem.W.Frag} {mg mb : Str → Option Value} {k : Nat} {fa a : Addr} {fd : FuncData} {x : Str} {sp : Sp} {s₁ : Shared} {vs : List Value} {ns : List Int}
    (KX : K.In s₁.heap) (hns : s₁.heap.Ns mainGlobals mg) (hb : s₁.heap.Ns builtinsNs mb) (hbb : ∀ x : Str, x ≠ "__name__" → mb x = bootBuiltins x) (hlim : s₁.heap.NoLimit) (hg : s₁.gens = #[])
    (ha : s₁.heap.get? a = some { cls := .type "list", data := .seq vs.toArray }) (hi : IntsAre vs ns) (hl : ns.length ≤ sizeLine) (hr : Room k callerA)
    (F : ∀ base : Heap, K.In base → base.Ns mainGlobals mg → FnG P w K mg base k fa fd [x] sp) (hbind : ∀ (s : Shared) (u : Value), BindsTo s fd ⟨[u], []⟩ [(x, u)])
    (hsp : ∀ H : Hp, Only H → SqL K H a (ns.map V.int) → sp [.ref a] H (fun v _ => v = .bl true) fun _ _ _ => False) :
    codeAny (model P w) callerA (.call (.ref fa) ⟨[.ref a], []⟩) (fun r s' => r = .ok (.ret (.bool true)) ∧ OldK s₁.heap s'.heap ∧ s'.os = s₁.os ∧ AllBare s'.gens) s₁ := by
  have rv := vals_ints hi
  have lenV := hi.length
  -- whatever is known: nothing, or the script alone
  suffices core : ∀ H : Hp, Only H → SqL K H a (ns.map V.int) → HOk P w H s₁.heap → (∀ b, H b ≠ none → b = a ∧ K.lookup a = none) →
      codeAny (model P w) callerA (.call (.ref fa) ⟨[.ref a], []⟩) (fun r s' => r = .ok (.ret (.bool true)) ∧ OldK s₁.heap s'.heap ∧ s'.os = s₁.os ∧ AllBare s'.gens) s₁ by
    cases hk : K.lookup a with
    | some o =>
      have e := KX a o hk
      rw [ha] at e
      cases e
      refine core (fun _ => none) (fun _ => .inl rfl) (.inr ⟨_, vs.toArray, _, hk, rfl, rfl, rfl, ?_, ?_⟩) (fun b u z => ?_) (fun b z => absurd rfl z)
      · rw [List.size_toArray, lenV]
        exact hl
      · simpa using rv
      · exact nomatch (show (none : Option HO) = some u from z)
    | none =>
      refine core (upd (fun _ => none) a (.frz { cls := .type "list", data := .seq vs.toArray } (.lst (ns.map V.int)))) (fun b => ?_) (.inl (.inr ⟨_, upd_same⟩)) (fun b u z => ?_) (fun b z => ?_)
      · by_cases hb : b = a
        · subst hb
          exact .inr ⟨_, _, upd_same⟩
        · exact .inl (upd_ne hb)
      · by_cases hb : b = a
        · subst hb
          rw [upd_same] at z
          cases z
          exact ⟨ha, by rw [List.length_map]; exact hl, vs, _, rv, ha⟩
        · rw [upd_ne hb] at z
          cases z
      · by_cases hb : b = a
        · exact ⟨hb, hk⟩
        · exact absurd (upd_ne hb) z
  intro H hO hS hok hA
  have notDict : ∀ {b : Addr} {o : Obj} {es : Array DictEntry} {ep : Nat}, s₁.heap.get? b = some o → o.data = .dict es ep → H b = none := fun {b o es ep} e d => by
    cases q : H b with
    | none => rfl
    | some u =>
      obtain ⟨e', _⟩ := hA b (by rw [q]; exact nofun)
      subst e'
      rw [ha] at e
      cases e
      exact nomatch (show Data.seq vs.toArray _ = Data.dict es ep from d)
  have nsB : ∀ {b : Addr} {m : Str → Option Value}, s₁.heap.Ns b m → (hidT s₁.heap H).Ns b m := fun ⟨o, es, ep, e, d, r⟩ => ⟨o, es, ep, hidT_get e (notDict e d), d, r⟩
  have inB : K.In (hidT s₁.heap H) := fun b o e => hidT_get (KX b o e) (by
    cases q : H b with
    | none => rfl
    | some u =>
      obtain ⟨e', hk⟩ := hA b (by rw [q]; exact nofun)
      subst e'
      rw [hk] at e
      cases e)
  have md : Mod K mg (hidT s₁.heap H) := ⟨inB, nsB hns, ⟨mb, nsB hb, hbb⟩, hlim.elim fun mc h => ⟨mc, nsB h.1, h.2⟩⟩
  have none_in : ∀ b : Addr, b ∉ frs [] := fun b hb => absurd (show b ∈ ([] : List Addr) from hb) List.not_mem_nil
  have e0 : Env0 P w K mg (hidT s₁.heap H) callerA [] s₁ H := ⟨rfl, md, fun b o e => of_hidT e, Nat.le_of_eq (hidT_size _ _), trivial, fun b hb => absurd hb (none_in b), hok, .of_eq hg⟩
  refine codeAny_mono ((F _ inB (nsB hns)).go callerA [] s₁ H ⟨[.ref a], []⟩ [.ref a] [.ref a] _ _ hr rfl e0 (hbind s₁ (.ref a)) (.cons rfl .nil) (hsp H hO hS)) fun rr s' h => ?_
  match rr, h with
  | .error _, h => exact False.elim h
  | .ok .next, h => exact False.elim h
  | .ok .brk, h => exact False.elim h
  | .ok .cont, h => exact False.elim h
  | .ok (.ret u), h =>
    obtain ⟨v, H', os, bare, un, hok', r', q⟩ := h
    cases (show v = .bl true from q)
    cases (show u = Value.bool true from r')
    refine ⟨rfl, OldK.of_keep fun b o e => ?_, os, bare⟩
    rcases hO b with z | ⟨ob, xs, z⟩
    · exact un.keep b o e z (none_in b) List.not_mem_nil
    · obtain ⟨e1, _⟩ := hok b _ z
      obtain ⟨e2, _⟩ := hok' b _ (un.frzs b ob _ z)
      rw [e] at e1
      cases e1
      exact e2
theorem walk_ofG {l : PySem.W.OpenLaw} {n k : Nat} {q : Program} {loose : List Str} {XP : (Str → Option Value) → Heap → Prop} {YP : World → Heap → Prop} {d : DefRec} {K : Params → PySem.W.Frag} {sp : PySem.W.Frag → Sp} {x : Str}
    (hn : l.most = some n) (hn2 : n ≤ sizeLine) (hdf : d.params.defaults = []) (hr : Room k callerA) (hY : ∀ (w : World) (h : Heap), YP w h → (K w.params).In h)
    (F : ∀ (w : World) (mg : Str → Option Value) (fa : Addr) (h : Heap), (K w.params).In h → h.Ns mainGlobals mg → mg d.name = some (.ref fa) →
      ∃ fd : FuncData, (∀ (s : Shared) (u : Value), BindsTo s fd ⟨[u], []⟩ [(x, u)]) ∧
        ∀ base : Heap, (K w.params).In base → base.Ns mainGlobals mg → FnG l.prog w (K w.params) mg base k fa fd [x] (sp (K w.params)))
    (hsp : ∀ (K : PySem.W.Frag) (H : Hp) (a : Addr) (ns : List Int), ns.length ≤ n → (∀ z ∈ ns, Builtin.Int.intBits z ≤ 1048576) → Only H → SqL K H a (ns.map V.int) → sp K [.ref a] H (fun v _ => v = .bl true) fun _ _ _ => False) :
    PySem.W.WalkO q loose XP YP l.row.toRowW d [] (fun f vs => PySem.call f vs) := by
  refine Att.attach_callB hn hdf fun w s₀ s₁ mg mb fa o pm cd doc a vs ns G Y ho hd hcd hmg hobj hints hlen hbits hg => ?_
  have KX := hY w _ Y
  obtain ⟨fd, hb, hF⟩ := F w mg fa _ KX G.T.g hmg
  exact law_callG KX G.T.g G.T.b G.T.builtins G.T.nolimit hg hobj hints (Nat.le_trans hlen hn2) hr hF hb fun H hO hS => hsp _ H a ns hlen hbits hO hS


/-- a for over what J walks -/
def Lp (J : It) (g : TG) (tb : TS) (D : Ends) (σ : L2.St) (H : Hp) : Prop := ∃ W : Nat → Nat → L2.St → Hp → Prop, (∃ m, W 0 m σ H) ∧ ∀ i m σ H, W i m σ H →
  (J.stop i H ∧ D.nx σ H) ∨
    (J.go i H ∧ ∃ N : L2.St → Hp → Prop, (∀ σ' H', N σ' H' → ∃ m', m' < m ∧ W (i + 1) m' σ' H') ∧ ∀ x H', J.yld i H x H' → g x σ H' fun σ2 H2 => tb { D with nx := N, ct := N, bk := D.nx } σ2 H2)
/-- a list made over what J walks -/
def Lc (J : It) (g : TG) (tt : TT) (te : TE) (vs : List Nat) (σ : L2.St) (H1 : Hp) (Q : VK) : Prop := ∀ D, H1 D = none → ∃ W : Nat → Nat → Hp → Prop, (∃ m, W 0 m (upd H1 D (.lst []))) ∧ ∀ i m H, W i m H →
  (J.stop i H ∧ Q (.ref D) H) ∨
    (J.go i H ∧ ∃ Nx : Hp → Prop, (∀ H', Nx H' → ∃ m', m' < m ∧ W (i + 1) m' H') ∧ ∀ x H', J.yld i H x H' → g x (wipe σ vs) H' fun σ2 H2 => wipe σ2 vs = wipe σ vs ∧ tt σ2 H2 fun b H3 =>
      if b = true then te σ2 H3 fun y H4 => ∃ acc, H4 D = some (.lst acc) ∧ acc.length < sizeLine ∧ Nx (upd H4 D (.lst (acc ++ [y]))) else Nx H3)
/-- what is asked of range's ends -/
def rg1 (xs : List V) (P : Int → Prop) : Prop := match xs with
  | [.int j] => -(2 ^ 62) ≤ j ∧ j < 2 ^ 62 ∧ P j
  | _ => False
def rg2 (xs : List V) (P : Int → Int → Prop) : Prop := match xs with
  | [.int i, .int j] => (-(2 ^ 62) ≤ i ∧ i < 2 ^ 62 ∧ -(2 ^ 62) ≤ j ∧ j < 2 ^ 62) ∧ P i j
  | _ => False
theorem rg1_ok {xs : List V} {P : Int → Prop} : rg1 xs P = ∃ j : Int, xs = [.int j] ∧ -(2 ^ 62) ≤ j ∧ j < 2 ^ 62 ∧ P j := by
  refine propext ⟨fun h => ?_, fun ⟨j, e, h⟩ => by subst e; exact h⟩
  unfold rg1 at h
  split at h
  · exact ⟨_, rfl, h⟩
  · exact h.elim
theorem rg2_ok {xs : List V} {P : Int → Int → Prop} : rg2 xs P = ∃ i j : Int, xs = [.int i, .int j] ∧ (-(2 ^ 62) ≤ i ∧ i < 2 ^ 62 ∧ -(2 ^ 62) ≤ j ∧ j < 2 ^ 62) ∧ P i j := by
  refine propext ⟨fun h => ?_, fun ⟨i, j, e, h⟩ => by subst e; exact h⟩
  unfold rg2 at h
  split at h
  · exact ⟨_, _, rfl, h⟩
  · exact h.elim
def jR1 (ta : TA) : TI := fun σ H R => ta σ H fun vs H1 => rg1 vs fun j => R (Itr 0 j.toNat) H1
def jR2 (ta : TA) : TI := fun σ H R => ta σ H fun vs H1 => rg2 vs fun i j => R (Itr i (j - i).toNat) H1
/-- a list that is walked: its place -/
def isL (K : PySem.W.Frag) (x : V) (H : Hp) (P : Addr → Prop) : Prop := ∃ a, x = .ref a ∧ (∃ xs, SqL K H a xs) ∧ P a
def isT (K : PySem.W.Frag) (x : V) (H : Hp) (P : Addr → Prop) : Prop := ∃ a, x = .ref a ∧ (∃ xs, SqT K H a xs) ∧ P a
def jL (K : PySem.W.Frag) (tl : TE) : TI := fun σ H R => tl σ H fun x H1 => isL K x H1 fun a => R (Itl K a) H1
def jT (K : PySem.W.Frag) (tl : TE) : TI := fun σ H R => tl σ H fun x H1 => isT K x H1 fun a => R (Itt K a) H1
theorem jR1_eq (ta : TA) : iRng1 ta = jR1 ta := by
  funext σ H R
  unfold iRng1 jR1
  simp only [rg1_ok]
theorem jR2_eq (ta : TA) : iRng2 ta = jR2 ta := by
  funext σ H R
  unfold iRng2 jR2
  simp only [rg2_ok]
section
variable {X : Cx}
theorem i_rng1 {tg : Expr} {ta : TA} {iter : Expr} (h : PI X tg iter (iRng1 ta)) : PI X tg iter (jR1 ta) := jR1_eq ta ▸ h
theorem i_rng2 {tg : Expr} {ta : TA} {iter : Expr} (h : PI X tg iter (iRng2 ta)) : PI X tg iter (jR2 ta) := jR2_eq ta ▸ h
theorem i_list {tg iter : Expr} {tl : TE} (h : PI X tg iter (iList X.K tl)) : PI X tg iter (jL X.K tl) := h
theorem i_tup {tg iter : Expr} {tl : TE} (h : PI X tg iter (iTup X.K tl)) : PI X tg iter (jT X.K tl) := h
end
/-- equality of texts: a word of its own, that nothing evaluates -/
def eqS (a b : Str) : Bool := decide (a = b)
theorem eqS_t {a b : Str} (h : a = b) : eqS a b = true := decide_eq_true h
theorem eqS_f {a b : Str} (h : ¬ a = b) : eqS a b = false := decide_eq_false h
/-- several targets -/
def mGn : TGs := fun vs σ H Q => match vs with
  | [] => Q σ H
  | _ => False
def mGc (t : TG) (u : TGs) : TGs := fun vs σ H Q => match vs with
  | v :: r => t v σ H fun σ' H' => u r σ' H' Q
  | [] => False
theorem mGn_eq : gNil = mGn := by
  funext vs σ H Q
  refine propext ?_
  cases vs with
  | nil => exact ⟨fun h => h.2, fun h => ⟨rfl, h⟩⟩
  | cons v r => exact ⟨fun h => (nomatch h.1), fun h => False.elim h⟩
theorem mGc_eq (t : TG) (u : TGs) : gCons t u = mGc t u := by
  funext vs σ H Q
  refine propext ?_
  cases vs with
  | nil => exact ⟨fun ⟨v, r, e, _⟩ => (nomatch e), fun h => False.elim h⟩
  | cons v r => exact ⟨fun ⟨v, r, e, h⟩ => by cases e; exact h, fun h => ⟨v, r, rfl, h⟩⟩
theorem p_gnil {X : Cx} : PGs X [] mGn := mGn_eq ▸ pgs_nil
theorem p_gcons {X : Cx} {a : Expr} {as : List Expr} {t : TG} {u : TGs} (h1 : PG X a t) (h2 : PGs X as u) (hs : (assignEach (a :: as) X.env).map (·.2) = assign a X.env :: (assignEach as X.env).map (·.2) := by rfl) : PGs X (a :: as) (mGc t u) := mGc_eq t u ▸ pgs_cons h1 h2 hs
/-- a statement, then what is behind it, by a word of one's own between them -/
def mCut (t u : TS) : TS := fun D σ H => ∃ M : L2.St → Hp → Prop, t { D with nx := M } σ H ∧ ∀ σ' H', M σ' H' → u D σ' H'
theorem p_cut {X : Cx} {st : Stmt} {rest : List Stmt} {t u : TS} (h1 : PS X st t) (h2 : PSs X rest u) : PSs X (st :: rest) (mCut t u) where
  run := fun pins s σ H D I h => by
    obtain ⟨M, hm, hu⟩ := h
    have q1 := h1.run pins s σ H { D with nx := M } I hm
    refine wpAny_execs_cons (thn q1 ?_)
    intro fl s1 q
    cases fl with
    | next => exact q.elim fun σ' z => z.elim fun H' z => h2.run pins s1 σ' H' D z.1 (hu σ' H' z.2)
    | ret v => exact q
    | brk => exact q
    | cont => exact q
theorem h_cut {t u : TS} {D : Ends} {σ : L2.St} {H : Hp} (M : L2.St → Hp → Prop) (h1 : t { D with nx := M } σ H) (h2 : ∀ σ' H', M σ' H' → u D σ' H') : mCut t u D σ H := ⟨M, h1, h2⟩
/-- a new list, a new tuple -/
def newL (xs : List V) (H : Hp) (Q : VK) : Prop := xs.length ≤ sizeLine ∧ ∀ p, H p = none → Q (.ref p) (upd H p (.lst xs))
def newT (xs : List V) (H : Hp) (Q : VK) : Prop := xs.length ≤ sizeLine ∧ ∀ p, H p = none → Q (.ref p) (upd H p (.tup xs))
def vl (o : Option V) (Q : VK) (H : Hp) : Prop := match o with
  | some v => Q v H
  | none => False
/-- targets: a tuple's items -/
def tupl (K : PySem.W.Frag) (n : Nat) (t : TGs) (v : V) (σ : L2.St) (H : Hp) (Q : L2.St → Hp → Prop) : Prop := ∃ a xs, v = .ref a ∧ SqT K H a xs ∧ xs.length = n ∧ t xs σ H Q
def asV (v : V) (vs : List V) (P : List V → Prop) : Prop := match vs with
  | x :: r => P r
  | [] => False
def truK (K : PySem.W.Frag) (Q : Bool → Hp → Prop) (x : V) (H1 : Hp) : Prop := match x with
  | .bl b => Q b H1
  | .int i => Q (i != 0) H1
  | .non => Q false H1
  | x => hTru K x H1 Q
def partK (Q : Option Int → Hp → Prop) (x : V) (H1 : Hp) : Prop := match x with
  | .int i => Q (some i) H1
  | _ => False
section
variable {K : PySem.W.Frag} {σ : L2.St} {H H0 : Hp} {S : List Addr} {L : List (Addr × Ent)} {I : List (V × PyData)} {Q : VK} {QB : Bool → Hp → Prop} {QL : List V → Hp → Prop} {QS : L2.St → Hp → Prop} {QO : Option Int → Hp → Prop} {QH : Hp → Prop} {D : Ends} {v x y : V} {ta tb te tl tc : TE} {t u c tt : TT} {A : TA} {t1 t2 ts : TS} {r : R2} {g : TG} {gs : TGs} {vs : List V} {is : List Nat} {i j : Int} {a b : Str} {p q : Bool} {n : Nat} {rc : RCall} {rm : RMt} {rs : RSl} {T : String} {lo hi : TO} {wi : TI}
theorem a_lk0 : lk (none :: σ) 0 = none := rfl
theorem a_lk1 : lk (some v :: σ) 0 = some v := rfl
theorem a_lkS {o : Option V} : lk (o :: σ) (n + 1) = lk σ n := rfl
theorem a_V : mV n σ H Q = vl (lk σ n) Q H := rfl
theorem a_vl : vl (some v) Q H = Q v H := rfl
theorem a_c : tC v σ H Q = Q v H := rfl
theorem a_op : tOp r ta tb σ H Q = ta σ H fun x H1 => tb σ H1 fun y H2 => r x y H2 Q := rfl
theorem a_un {ru : V → Hp → VK → Prop} : tUn ru ta σ H Q = ta σ H fun x H1 => ru x H1 Q := rfl
theorem a_test : mTest ta σ H QB = ta σ H (toB QB) := rfl
theorem a_toB : toB QB (.bl p) H = QB p H := rfl
theorem a_tr : mTr K ta σ H QB = ta σ H (truK K QB) := rfl
theorem a_trB : truK K QB (.bl p) H = QB p H := rfl
theorem a_trI : truK K QB (.int i) H = QB (i != 0) H := rfl
theorem a_trN : truK K QB .non H = QB false H := rfl
theorem a_and : tAnd t u σ H QB = t σ H fun c H1 => if c = true then u σ H1 QB else QB false H1 := rfl
theorem a_or : tOr t u σ H QB = t σ H fun c H1 => if c = true then QB true H1 else u σ H1 QB := rfl
theorem a_not : tNot t σ H QB = t σ H fun c H1 => QB (!c) H1 := rfl
theorem a_andV : mAndV ta tb σ H Q = ta σ H (toB fun c H1 => if c = true then tb σ H1 Q else Q (.bl false) H1) := rfl
theorem a_orV : mOrV ta tb σ H Q = ta σ H (toB fun c H1 => if c = true then Q (.bl true) H1 else tb σ H1 Q) := rfl
theorem a_notV : mNotV ta σ H Q = ta σ H (toB fun c H1 => Q (.bl (!c)) H1) := rfl
theorem a_ifE : mIfE t ta tb σ H Q = t σ H fun b H1 => BrE b ta tb Q σ H1 := rfl
theorem a_nil : tNil σ H QL = QL [] H := rfl
theorem a_cons : tCons ta A σ H QL = ta σ H fun x H1 => A σ H1 fun xs H2 => QL (x :: xs) H2 := rfl
theorem a_lst : tLst A σ H Q = A σ H fun xs H1 => newL xs H1 Q := rfl
theorem a_tup : tTup A σ H Q = A σ H fun xs H1 => newT xs H1 Q := rfl
theorem a_call {sp : Sp} {dvs : List V} {E : XK} : tCall sp dvs E A σ H Q = A σ H fun vs H1 => sp (vs ++ dvs) H1 Q E := rfl
theorem a_CB : tCB rc A σ H Q = A σ H fun vs H1 => rc vs H1 Q := rfl
theorem a_BM : tBM K T rm ta A σ H Q = ta σ H fun x H1 => tyV K T x H1 ∧ A σ H1 fun xs H2 => rm x xs H2 Q := rfl
theorem a_BM0 : tBM0 K T rm ta σ H Q = ta σ H fun x H1 => tyV K T x H1 ∧ rm x [] H1 Q := rfl
theorem a_sl : tSl rs te lo hi σ H Q = te σ H fun x H1 => lo σ H1 fun l H2 => hi σ H2 fun u H3 => rs x l u H3 Q := rfl
theorem a_part : mPart te σ H QO = te σ H (partK QO) := rfl
theorem a_partI : partK QO (.int i) H = QO (some i) H := rfl
theorem a_noPart : tNoPart σ H QO = QO none H := rfl
theorem a_seq : tSeq t1 t2 D σ H = t1 { D with nx := t2 D } σ H := rfl
theorem a_next : tNext D σ H = D.nx σ H := rfl
theorem a_brk : tBreak D σ H = D.bk σ H := rfl
theorem a_cont : tCont D σ H = D.ct σ H := rfl
theorem a_asg : tAsg te g D σ H = te σ H fun x H1 => g x σ H1 D.nx := rfl
theorem a_name : gName n v σ H QS = QS (σ.set n (some v)) H := rfl
theorem a_drop : tDrop te D σ H = te σ H fun _ H1 => D.nx σ H1 := rfl
theorem a_ret : tRet te D σ H = te σ H D.rt := rfl
theorem a_retN : tRetN D σ H = D.rt .non H := rfl
theorem a_if : mIf t t1 t2 D σ H = t σ H fun b H1 => Br b t1 t2 D σ H1 := rfl
theorem a_aug : mAug n te r D σ H = vl (lk σ n) (fun x H => te σ H fun y H1 => r x y H1 fun z H2 => D.nx (σ.set n (some z)) H2) H := rfl
theorem a_for : tFor wi g ts D σ H = wi σ H fun J H1 => Lp J g ts D σ H1 := rfl
theorem a_lc {vs : List Nat} : tLc wi g tt te vs σ H Q = wi σ H fun J H1 => Lc J g tt te vs σ H1 Q := rfl
theorem a_jR1 {R : It → Hp → Prop} : jR1 A σ H R = A σ H fun vs H1 => rg1 vs fun j => R (Itr 0 j.toNat) H1 := rfl
theorem a_jR2 {R : It → Hp → Prop} : jR2 A σ H R = A σ H fun vs H1 => rg2 vs fun i j => R (Itr i (j - i).toNat) H1 := rfl
theorem a_jL {R : It → Hp → Prop} : jL K tl σ H R = tl σ H fun x H1 => isL K x H1 fun a => R (Itl K a) H1 := rfl
theorem a_jT {R : It → Hp → Prop} : jT K tl σ H R = tl σ H fun x H1 => isT K x H1 fun a => R (Itt K a) H1 := rfl
theorem a_rg1 {P : Int → Prop} : rg1 [.int i] P = (-(2 ^ 62) ≤ i ∧ i < 2 ^ 62 ∧ P i) := rfl
theorem a_rg2 {P : Int → Int → Prop} : rg2 [.int i, .int j] P = ((-(2 ^ 62) ≤ i ∧ i < 2 ^ 62 ∧ -(2 ^ 62) ≤ j ∧ j < 2 ^ 62) ∧ P i j) := rfl
theorem a_gsub {to ti : TE} {ts : TSet} : gSub to ti ts v σ H QS = to σ H fun o H1 => ti σ H1 fun i H2 => ts o i v H2 fun H3 => QS σ H3 := rfl
theorem a_yes : tYes σ H QB = QB true H := rfl
theorem a_addI : mAdd K (.int i) (.int j) H Q = Q (.int (i + j)) H := rfl
theorem a_addS : mAdd K (.str a) (.str b) H Q = (a.length + b.length ≤ sizeLine ∧ Q (.str (a ++ b)) H) := rfl
theorem a_addR {a b : Addr} : mAdd K (.ref a) (.ref b) H Q = hAdd K (.ref a) (.ref b) H Q := rfl
theorem a_iaddI : mIAdd (.int i) (.int j) H Q = Q (.int (i + j)) H := rfl
theorem a_iaddS : mIAdd (.str a) (.str b) H Q = (a.length + b.length ≤ sizeLine ∧ Q (.str (a ++ b)) H) := rfl
theorem a_sub : mSub (.int i) (.int j) H Q = Q (.int (i - j)) H := rfl
theorem a_mulI : mMul (.int i) (.int j) H Q = (CMul i j ∧ Q (.int (i * j)) H) := rfl
theorem a_mulR {a : Addr} : mMul (.ref a) (.int j) H Q = rRep (.ref a) (.int j) H Q := rfl
theorem a_fdiv : mFdiv (.int i) (.int j) H Q = (CDivW i j ∧ Q (.int (i / j)) H) := rfl
theorem a_mod : mMod (.int i) (.int j) H Q = (0 < j ∧ Q (.int (i % j)) H) := rfl
theorem a_pow : mPow (.int i) (.int j) H Q = (CPow i j ∧ Q (.int (i ^ j.toNat)) H) := rfl
theorem a_shl : mShl (.int i) (.int j) H Q = (CPow i j ∧ Q (.int (i * 2 ^ j.toNat)) H) := rfl
theorem a_shr : mShr (.int i) (.int j) H Q = (0 ≤ j ∧ Q (.int (i / 2 ^ j.toNat)) H) := rfl
theorem a_lt : mLt (.int i) (.int j) H Q = Q (.bl (decide (i < j))) H := rfl
theorem a_le : mLe (.int i) (.int j) H Q = Q (.bl (decide (i ≤ j))) H := rfl
theorem a_gt : mGt (.int i) (.int j) H Q = Q (.bl (decide (j < i))) H := rfl
theorem a_ge : mGe (.int i) (.int j) H Q = Q (.bl (decide (j ≤ i))) H := rfl
theorem a_neg : mNeg (.int i) H Q = Q (.int (-i)) H := rfl
theorem a_EqI : mEq K (.int i) (.int j) H Q = Q (.bl (decide (i = j))) H := rfl
theorem a_EqS : mEq K (.str a) (.str b) H Q = Q (.bl (eqS a b)) H := rfl
theorem a_EqB : mEq K (.bl p) (.bl q) H Q = Q (.bl (decide (p = q))) H := rfl
theorem a_EqNN : mEq K .non .non H Q = Q (.bl true) H := rfl
theorem a_EqIN : mEq K (.int i) (.non) H Q = Q (.bl false) H := rfl
theorem a_EqNI : mEq K (.non) (.int i) H Q = Q (.bl false) H := rfl
theorem a_EqSN : mEq K (.str a) (.non) H Q = Q (.bl false) H := rfl
theorem a_EqNS : mEq K (.non) (.str a) H Q = Q (.bl false) H := rfl
theorem a_EqRR {a b : Addr} : mEq K (.ref a) (.ref b) H Q = hEq K (.ref a) (.ref b) H Q := rfl
theorem a_EqRN {a : Addr} : mEq K (.ref a) .non H Q = hEq K (.ref a) .non H Q := rfl
theorem a_EqNR {a : Addr} : mEq K .non (.ref a) H Q = hEq K .non (.ref a) H Q := rfl
theorem a_NeI : mNe K (.int i) (.int j) H Q = Q (.bl (!decide (i = j))) H := rfl
theorem a_NeS : mNe K (.str a) (.str b) H Q = Q (.bl (!eqS a b)) H := rfl
theorem a_NeB : mNe K (.bl p) (.bl q) H Q = Q (.bl (!decide (p = q))) H := rfl
theorem a_NeNN : mNe K .non .non H Q = Q (.bl false) H := rfl
theorem a_NeIN : mNe K (.int i) (.non) H Q = Q (.bl true) H := rfl
theorem a_NeNI : mNe K (.non) (.int i) H Q = Q (.bl true) H := rfl
theorem a_NeSN : mNe K (.str a) (.non) H Q = Q (.bl true) H := rfl
theorem a_NeNS : mNe K (.non) (.str a) H Q = Q (.bl true) H := rfl
theorem a_NeRR {a b : Addr} : mNe K (.ref a) (.ref b) H Q = hNe K (.ref a) (.ref b) H Q := rfl
theorem a_NeRN {a : Addr} : mNe K (.ref a) .non H Q = hNe K (.ref a) .non H Q := rfl
theorem a_NeNR {a : Addr} : mNe K .non (.ref a) H Q = hNe K .non (.ref a) H Q := rfl
theorem a_isNN : mIsN .non .non H Q = Q (.bl true) H := rfl
theorem a_isNI : mIsN (.int i) .non H Q = Q (.bl false) H := rfl
theorem a_isNS : mIsN (.str a) .non H Q = Q (.bl false) H := rfl
theorem a_isNB : mIsN (.bl p) .non H Q = Q (.bl false) H := rfl
theorem a_isNR {a : Addr} : mIsN (.ref a) .non H Q = Q (.bl false) H := rfl
theorem a_notNN : mNotN .non .non H Q = Q (.bl false) H := rfl
theorem a_notNI : mNotN (.int i) .non H Q = Q (.bl true) H := rfl
theorem a_notNS : mNotN (.str a) .non H Q = Q (.bl true) H := rfl
theorem a_notNB : mNotN (.bl p) .non H Q = Q (.bl true) H := rfl
theorem a_notNR {a : Addr} : mNotN (.ref a) .non H Q = Q (.bl true) H := rfl
theorem a_intI : mInt [.int i] H Q = Q (.int i) H := rfl
theorem a_intB : mInt [.bl p] H Q = Q (.int (if p then 1 else 0)) H := rfl
theorem a_abs : mAbs [.int i] H Q = Q (.int (if i < 0 then -i else i)) H := rfl
theorem a_gnil : mGn [] σ H QS = QS σ H := rfl
theorem a_gcons : mGc g gs (v :: vs) σ H QS = g v σ H fun σ' H' => gs vs σ' H' QS := rfl
end
section
variable {K : PySem.W.Frag} {σ : L2.St} {H H0 : Hp} {S : List Addr} {L : List (Addr × Ent)} {I : List (V × PyData)} {Q : VK} {D : Ends} {v x y : V} {i : Int} {g : TG} {tb : TS} {tt : TT} {te : TE} {vs : List Nat}
/-! ### ledgers made -/
theorem Led.cons {a : Addr} {e : Ent} (hL : Led K H0 S H L I) (h : EntAt K H a e) (hn : a ∉ L.map (·.1)) : Led K H0 S H ((a, e) :: L) I where
  nd := by
    rw [List.map_cons, List.nodup_cons]
    exact ⟨hn, hL.nd⟩
  at_ := fun n b x q => by
    cases n with
    | zero =>
      have q' := Option.some.inj q
      cases q'
      exact h
    | succ n => exact hL.at_ n b x q
  im := hL.im
  kp := hL.kp
theorem Led.mk1 {a : Addr} {e : Ent} (h : EntAt K H a e) : Led K H S H [(a, e)] [] := Led.cons Led.start h List.not_mem_nil
theorem Led.mk2 {a b : Addr} {o u : HO} (h1 : H a = some o) (h2 : H b = some u) (hn : a ≠ b) : Led K H S H [(a, .raw o), (b, .raw u)] [] :=
  Led.cons (Led.mk1 (e := .raw u) h2) (e := .raw o) h1 fun m => hn (List.mem_singleton.mp m)
theorem Led.imm (h : Led K H0 S H L I) (n : Nat) {d : PyData} (e : I[n]? = some (v, d)) : Im K H v d := h.im n v d e
theorem h_imm (n : Nat) (h : Led K H0 S H L I) {d : PyData} (e : I[n]? = some (v, d)) : Im K H v d := h.im n v d e
theorem Led.sqL (h : Led K H0 S H L I) (n : Nat) {a : Addr} {xs : List V} (e : L[n]? = some (a, .raw (.lst xs))) : SqL K H a xs := SqL.of (h.raw n e)
theorem Led.fr (h : Led K H0 S H L I) {p : Addr} (hp : H p = none) : H0 p = none ∨ p ∈ S := by
  by_cases m : p ∈ S
  · exact .inr m
  · exact .inl (fresh0 h.kp m hp)
/-- two entries stand apart -/
theorem Led.ne (h : Led K H0 S H L I) (n m : Nat) {a b : Addr} {e u : Ent} (h1 : L[n]? = some (a, e)) (h2 : L[m]? = some (b, u)) (hnm : n ≠ m) : a ≠ b := fun ab => by
  subst ab
  have r1 : (L.map (·.1))[n]? = some a := by
    rw [List.getElem?_map, h1]
    rfl
  have r2 : (L.map (·.1))[m]? = some a := by
    rw [List.getElem?_map, h2]
    rfl
  exact hnm (nd_ix h.nd r1 r2)
/-! ### the heap's operations -/
theorem h_lst (h : Led K H0 S H L I) {xs : List V} (z : xs.length ≤ sizeLine) (k : ∀ p H', (H0 p = none ∨ p ∈ S) → Led K H0 S H' ((p, .raw (.lst xs)) :: L) I → Q (.ref p) H') : newL xs H Q :=
  ⟨z, fun p hp => k p _ (h.fr hp) (h.alloc hp)⟩
theorem h_tup (h : Led K H0 S H L I) {xs : List V} {ds : List PyData} (z : xs.length ≤ sizeLine) (hd : Ims K H xs ds) (k : ∀ p H', Led K H0 S H' L ((.ref p, .tuple ds) :: I) → Q (.ref p) H') : newT xs H Q :=
  ⟨z, fun p hp => k p _ (h.allocT hp hd)⟩
theorem h_ixL (n : Nat) (h : Led K H0 S H L I) {a : Addr} {xs : List V} (e : L[n]? = some (a, .raw (.lst xs))) (hx : atI xs i = some v) (k : Q v H) : rIx K (.ref a) (.int i) H Q :=
  .inl ⟨a, xs, i, v, rfl, rfl, h.sqL n e, hx, k⟩
theorem h_ixQ {a : Addr} {xs : List V} (h : SqL K H a xs) (hx : atI xs i = some v) (k : Q v H) : rIx K (.ref a) (.int i) H Q := .inl ⟨a, xs, i, v, rfl, rfl, h, hx, k⟩
theorem at_nn {α : Type} {xs : List α} {i : Int} {v : α} (h0 : 0 ≤ i) (h : xs[i.toNat]? = some v) : atI xs i = some v := by
  have q := atI_nat h
  rw [Int.toNat_of_nonneg h0] at q
  exact q
theorem h_ixT {a : Addr} {ds : List PyData} {d : PyData} (hd : Im K H (.ref a) (.tuple ds)) (h0 : 0 ≤ i) (hx : ds[i.toNat]? = some d) (k : ∀ v, Im K H v d → Q v H) : rIx K (.ref a) (.int i) H Q := by
  cases hd with
  | tup hs ha =>
    obtain ⟨v, hv, hi⟩ := ha.get' hx
    exact .inr (.inl ⟨a, _, _, v, rfl, rfl, hs, at_nn h0 hv, k v hi⟩)
/-- a scalar of a tuple -/
def vOf : PyData → Option V
  | .none => some .non
  | .bool b => some (.bl b)
  | .int i => some (.int i)
  | .str x => some (.str x)
  | _ => none
theorem Im.vOf {d : PyData} (h : Im K H v d) : ∀ u, vOf d = some u → v = u := fun u e => by
  cases h <;> first | exact Option.some.inj e | exact nomatch e
theorem h_ixTv {a : Addr} {ds : List PyData} {d : PyData} (hd : Im K H (.ref a) (.tuple ds)) (h0 : 0 ≤ i) (hx : ds[i.toNat]? = some d) (hv : Rs.vOf d = some v) (k : Q v H) : rIx K (.ref a) (.int i) H Q :=
  h_ixT hd h0 hx fun u hu => by rw [hu.vOf v hv]; exact k
theorem h_append (n : Nat) (h : Led K H0 S H L I) {a : Addr} {xs : List V} (e : L[n]? = some (a, .raw (.lst xs))) (hs : H0 a = none ∨ a ∈ S) (z : xs.length < sizeLine) (k : ∀ H', Led K H0 S H' (L.set n (a, .raw (.lst (xs ++ [y])))) I → Q .non H') : rAppend (.ref a) [y] H Q :=
  ⟨a, xs, y, rfl, rfl, h.raw n e, z, k _ (h.wr n e (fun b o q hb => by rw [upd_ne (by simpa using hb)]; exact q) (h.raw n e) rfl upd_same hs)⟩
theorem h_appendD (n : Nat) (h : Led K H0 S H L I) {a : Addr} {ds : List PyData} {d : PyData} (e : L[n]? = some (a, .dl ds)) (hd : Im K H y d) (hs : H0 a = none ∨ a ∈ S) (z : ds.length < sizeLine) (k : ∀ H', Led K H0 S H' (L.set n (a, .dl (ds ++ [d]))) I → Q .non H') : rAppend (.ref a) [y] H Q := by
  obtain ⟨xs, ha, hx⟩ := h.at_ n a _ e
  have hk : KBs H (upd H a (.lst (xs ++ [y]))) [a] := fun b o q hb => by rw [upd_ne (by simpa using hb)]; exact q
  have hN : NoT H [a] := NoT.one ha rfl
  exact ⟨a, xs, y, rfl, rfl, ha, by rw [hx.len]; exact z, k _ (h.wr n e hk ha rfl ⟨_, upd_same, (hx.keep hk hN).app (Ims.one (hd.keep hk hN))⟩ hs)⟩
theorem h_tyL {P : Prop} (n : Nat) (h : Led K H0 S H L I) {a : Addr} {xs : List V} (e : L[n]? = some (a, .raw (.lst xs))) (k : P) : tyV K "list" (.ref a) H ∧ P := ⟨.inl ⟨rfl, xs, h.sqL n e⟩, k⟩
theorem h_tyD {P : Prop} (n : Nat) (h : Led K H0 S H L I) {a : Addr} {ds : List PyData} (e : L[n]? = some (a, .dl ds)) (k : P) : tyV K "list" (.ref a) H ∧ P := by
  obtain ⟨xs, ha, hx⟩ := h.at_ n a _ e
  exact ⟨.inl ⟨rfl, xs, SqL.of ha⟩, k⟩
theorem h_tyS {P : Prop} {a : Str} (k : P) : tyV K "str" (.str a) H ∧ P := ⟨rfl, k⟩
theorem h_lenL (n : Nat) (h : Led K H0 S H L I) {a : Addr} {xs : List V} (e : L[n]? = some (a, .raw (.lst xs))) (k : Q (.int (xs.length : Nat)) H) : hLen K [.ref a] H Q := ⟨.ref a, _, rfl, .inl ⟨xs, h.sqL n e, rfl⟩, k⟩
theorem h_lenD (n : Nat) (h : Led K H0 S H L I) {a : Addr} {ds : List PyData} (e : L[n]? = some (a, .dl ds)) (k : Q (.int (ds.length : Nat)) H) : hLen K [.ref a] H Q := by
  obtain ⟨xs, ha, hx⟩ := h.at_ n a _ e
  exact ⟨.ref a, _, rfl, .inl ⟨xs, SqL.of ha, rfl⟩, by rw [hx.len]; exact k⟩
theorem h_lenQ {a : Addr} {xs : List V} (h : SqL K H a xs) (k : Q (.int (xs.length : Nat)) H) : hLen K [.ref a] H Q := ⟨.ref a, _, rfl, .inl ⟨xs, h, rfl⟩, k⟩
theorem h_lenT {a : Addr} {ds : List PyData} (h : Im K H (.ref a) (.tuple ds)) (k : Q (.int (ds.length : Nat)) H) : hLen K [.ref a] H Q := by
  cases h with
  | tup hs ha => exact ⟨.ref a, _, rfl, .inr ⟨_, hs, rfl⟩, by rw [ha.len]; exact k⟩
theorem h_lenS {z : Str} (h : z.length ≤ sizeLine) (k : Q (.int (z.length : Nat)) H) : hLen K [.str z] H Q := ⟨.str z, _, rfl, ⟨h, rfl⟩, k⟩
theorem h_setL {Q : Hp → Prop} (n : Nat) (h : Led K H0 S H L I) {a : Addr} {xs : List V} {m : Nat} (e : L[n]? = some (a, .raw (.lst xs))) (hs : H0 a = none ∨ a ∈ S) (hi : ixN xs.length i = some m) (k : ∀ H', Led K H0 S H' (L.set n (a, .raw (.lst (xs.set m v)))) I → Q H') : rSetL (.ref a) (.int i) v H Q :=
  ⟨a, xs, i, m, rfl, rfl, h.raw n e, hi, k _ (h.wr n e (fun b o q hb => by rw [upd_ne (by simpa using hb)]; exact q) (h.raw n e) rfl upd_same hs)⟩
theorem h_isL {a : Addr} {xs : List V} {P : Addr → Prop} (z : SqL K H a xs) (k : P a) : isL K (.ref a) H P := ⟨a, rfl, ⟨xs, z⟩, k⟩
theorem h_isLn {a : Addr} {xs : List V} {P : Addr → Prop} (n : Nat) (h : Led K H0 S H L I) (e : L[n]? = some (a, .raw (.lst xs))) (k : P a) : isL K (.ref a) H P := ⟨a, rfl, ⟨xs, h.sqL n e⟩, k⟩
theorem h_isLd {a : Addr} {ds : List PyData} {P : Addr → Prop} (n : Nat) (h : Led K H0 S H L I) (e : L[n]? = some (a, .dl ds)) (k : P a) : isL K (.ref a) H P := by
  obtain ⟨xs, ha, hx⟩ := h.at_ n a _ e
  exact ⟨a, rfl, ⟨xs, SqL.of ha⟩, k⟩
theorem h_isT {a : Addr} {ds : List PyData} {P : Addr → Prop} (h : Im K H (.ref a) (.tuple ds)) (k : P a) : isT K (.ref a) H P := by
  cases h with
  | tup hs ha => exact ⟨a, rfl, ⟨_, hs⟩, k⟩
theorem h_br {p : Prop} [Decidable p] {t u : TS} (h1 : p → t D σ H) (h2 : ¬ p → u D σ H) : Br (decide p) t u D σ H := by
  unfold Br
  by_cases h : p
  · rw [if_pos (decide_eq_true h)]
    exact h1 h
  · rw [if_neg (by rw [decide_eq_false h]; exact Bool.false_ne_true)]
    exact h2 h
theorem h_brn {p : Prop} [Decidable p] {t u : TS} (h1 : ¬ p → t D σ H) (h2 : p → u D σ H) : Br (!decide p) t u D σ H := by
  unfold Br
  by_cases h : p
  · rw [decide_eq_true h]
    exact iteF (h2 h)
  · rw [decide_eq_false h]
    exact iteT (h1 h)
theorem h_brb {b : Bool} {t u : TS} (h1 : b = true → t D σ H) (h2 : b = false → u D σ H) : Br b t u D σ H := by
  cases b
  · exact iteF (h2 rfl)
  · exact iteT (h1 rfl)
theorem h_brE {p : Prop} [Decidable p] {t u : TE} (h1 : p → t σ H Q) (h2 : ¬ p → u σ H Q) : BrE (decide p) t u Q σ H := by
  unfold BrE
  by_cases h : p
  · rw [if_pos (decide_eq_true h)]
    exact h1 h
  · rw [if_neg (by rw [decide_eq_false h]; exact Bool.false_ne_true)]
    exact h2 h
theorem h_brEb {b : Bool} {t u : TE} (h1 : b = true → t σ H Q) (h2 : b = false → u σ H Q) : BrE b t u Q σ H := by
  cases b
  · exact iteF (h2 rfl)
  · exact iteT (h1 rfl)
theorem h_brS {a b : Str} {t u : TS} (h1 : a = b → t D σ H) (h2 : ¬ a = b → u D σ H) : Br (eqS a b) t u D σ H := h_br h1 h2
theorem h_brSn {a b : Str} {t u : TS} (h1 : ¬ a = b → t D σ H) (h2 : a = b → u D σ H) : Br (!eqS a b) t u D σ H := h_brn h1 h2
theorem h_brES {a b : Str} {t u : TE} (h1 : a = b → t σ H Q) (h2 : ¬ a = b → u σ H Q) : BrE (eqS a b) t u Q σ H := h_brE h1 h2
theorem h_brT {t u : TS} (h1 : t D σ H) : Br true t u D σ H := iteT h1
theorem h_brF {t u : TS} (h1 : u D σ H) : Br false t u D σ H := iteF h1
theorem h_brET {t u : TE} (h1 : t σ H Q) : BrE true t u Q σ H := iteT h1
theorem h_brEF {t u : TE} (h1 : u σ H Q) : BrE false t u Q σ H := iteF h1
theorem h_ite {p A B : Prop} [Decidable p] (h1 : p → A) (h2 : ¬ p → B) : if decide p = true then A else B := by
  by_cases h : p
  · rw [if_pos (decide_eq_true h)]
    exact h1 h
  · rw [if_neg (by rw [decide_eq_false h]; exact Bool.false_ne_true)]
    exact h2 h
theorem h_itn {p A B : Prop} [Decidable p] (h1 : ¬ p → A) (h2 : p → B) : if (!decide p) = true then A else B := by
  by_cases h : p
  · rw [decide_eq_true h]
    exact iteF (h2 h)
  · rw [decide_eq_false h]
    exact iteT (h1 h)
theorem h_itb {b : Bool} {A B : Prop} (h1 : b = true → A) (h2 : b = false → B) : if b = true then A else B := by
  cases b
  · exact iteF (h2 rfl)
  · exact iteT (h1 rfl)
/-! ### numbers -/
theorem cdiv_ok {i j : Int} (h1 : 0 < j) (h2 : j < 2 ^ 64) : CDivW i j := wide_div (b := 64) h1 (by omega) (by decide) (by decide)
theorem cmul_l {i j : Int} (h1 : -(2 ^ 64) < i) (h2 : i < 2 ^ 64) : CMul i j := .inl ⟨h1, h2⟩
theorem cmul_r {i j : Int} (h1 : -(2 ^ 64) < j) (h2 : j < 2 ^ 64) : CMul i j := .inr ⟨h1, h2⟩
theorem h_mr {P : Prop} {i j : Int} (h1 : -(2 ^ 64) < j) (h2 : j < 2 ^ 64) (k : P) : CMul i j ∧ P := ⟨.inr ⟨h1, h2⟩, k⟩
theorem h_ml {P : Prop} {i j : Int} (h1 : -(2 ^ 64) < i) (h2 : i < 2 ^ 64) (k : P) : CMul i j ∧ P := ⟨.inl ⟨h1, h2⟩, k⟩
theorem h_dv {P : Prop} {i j : Int} (h1 : 0 < j) (h2 : j < 2 ^ 64) (k : P) : CDivW i j ∧ P := ⟨cdiv_ok h1 h2, k⟩
theorem h_pw {P : Prop} {i j : Int} (h1 : 0 ≤ j) (h2 : j ≤ 1000000) (h3 : i.natAbs < 2 ^ 64) (k : P) : CPow i j ∧ P := ⟨⟨h1, h2, h3⟩, k⟩
theorem cpow_ok {i j : Int} (h1 : 0 ≤ j) (h2 : j ≤ 1000000) (h3 : i.natAbs < 2 ^ 64) : CPow i j := ⟨h1, h2, h3⟩
theorem ixN_nn {n : Nat} {i : Int} (h0 : 0 ≤ i) (h : i < n) : ixN n i = some i.toNat := by
  unfold ixN
  rw [if_pos h0, if_pos h]
theorem at_ints {ns : List Int} {i : Int} (h0 : 0 ≤ i) (h : i < ns.length) : atI (ns.map V.int) i = some (.int (ns.getD i.toNat 0)) := by
  have h2 : i.toNat < ns.length := by omega
  refine at_nn h0 ?_
  rw [List.getElem?_map, List.getElem?_eq_getElem h2, List.getD_eq_getElem?_getD, List.getElem?_eq_getElem h2]
  rfl
/-! ### loops -/
theorem lpR {lo : Int} {n : Nat} (Pv : Nat → L2.St → Hp → Prop) (h0 : Pv 0 σ H)
    (hs : ∀ i σ H, i < n → Pv i σ H → g (.int (lo + i)) σ H fun σ2 H2 => tb { D with nx := Pv (i + 1), ct := Pv (i + 1), bk := D.nx } σ2 H2) (hd : ∀ σ H, Pv n σ H → D.nx σ H) : Lp (Itr lo n) g tb D σ H :=
  for_range Pv h0 hs hd
theorem lpL {a : Addr} {xs : List V} (Pv : Nat → L2.St → Hp → Prop) (h0 : Pv 0 σ H) (hl : ∀ i σ H, i ≤ xs.length → Pv i σ H → SqL K H a xs)
    (hs : ∀ i x σ H, xs[i]? = some x → Pv i σ H → g x σ H fun σ2 H2 => tb { D with nx := Pv (i + 1), ct := Pv (i + 1), bk := D.nx } σ2 H2) (hd : ∀ σ H, Pv xs.length σ H → D.nx σ H) : Lp (Itl K a) g tb D σ H :=
  for_list Pv h0 hl hs hd
theorem lpT {a : Addr} {xs : List V} (Pv : Nat → L2.St → Hp → Prop) (h0 : Pv 0 σ H) (hl : ∀ i σ H, i ≤ xs.length → Pv i σ H → SqT K H a xs)
    (hs : ∀ i x σ H, xs[i]? = some x → Pv i σ H → g x σ H fun σ2 H2 => tb { D with nx := Pv (i + 1), ct := Pv (i + 1), bk := D.nx } σ2 H2) (hd : ∀ σ H, Pv xs.length σ H → D.nx σ H) : Lp (Itt K a) g tb D σ H :=
  for_tup Pv h0 hl hs hd
/-- a list made; Pv: the list's place, the turn, the heap -/
theorem lcR {lo : Int} {n : Nat} (h : Led K H0 S H L I) (Pv : Addr → Nat → Hp → Prop) (h0 : ∀ p H', H0 p = none ∨ p ∈ S → Led K H0 S H' ((p, .raw (.lst [])) :: L) I → Pv p 0 H')
    (hs : ∀ p i H, i < n → Pv p i H → g (.int (lo + i)) (wipe σ vs) H fun σ2 H2 => wipe σ2 vs = wipe σ vs ∧ tt σ2 H2 fun b H3 =>
      if b = true then te σ2 H3 fun y H4 => ∃ acc, H4 p = some (.lst acc) ∧ acc.length < sizeLine ∧ Pv p (i + 1) (upd H4 p (.lst (acc ++ [y]))) else Pv p (i + 1) H3)
    (hd : ∀ p H, Pv p n H → Q (.ref p) H) : Lc (Itr lo n) g tt te vs σ H Q := fun p hp => lc_range (Pv p) (h0 p _ (h.fr hp) (h.alloc hp)) (hs p) (hd p)
theorem lcL {a : Addr} {xs : List V} (h : Led K H0 S H L I) (Pv : Addr → Nat → Hp → Prop) (h0 : ∀ p H', H0 p = none ∨ p ∈ S → Led K H0 S H' ((p, .raw (.lst [])) :: L) I → Pv p 0 H')
    (hl : ∀ p i H, i ≤ xs.length → Pv p i H → SqL K H a xs)
    (hs : ∀ p i x H, xs[i]? = some x → Pv p i H → g x (wipe σ vs) H fun σ2 H2 => wipe σ2 vs = wipe σ vs ∧ tt σ2 H2 fun b H3 =>
      if b = true then te σ2 H3 fun y H4 => ∃ acc, H4 p = some (.lst acc) ∧ acc.length < sizeLine ∧ Pv p (i + 1) (upd H4 p (.lst (acc ++ [y]))) else Pv p (i + 1) H3)
    (hd : ∀ p H, Pv p xs.length H → Q (.ref p) H) : Lc (Itl K a) g tt te vs σ H Q := fun p hp => lc_list (Pv p) (h0 p _ (h.fr hp) (h.alloc hp)) (hl p) (hs p) (hd p)
theorem lcT {a : Addr} {xs : List V} (h : Led K H0 S H L I) (Pv : Addr → Nat → Hp → Prop) (h0 : ∀ p H', H0 p = none ∨ p ∈ S → Led K H0 S H' ((p, .raw (.lst [])) :: L) I → Pv p 0 H')
    (hl : ∀ p i H, i ≤ xs.length → Pv p i H → SqT K H a xs)
    (hs : ∀ p i x H, xs[i]? = some x → Pv p i H → g x (wipe σ vs) H fun σ2 H2 => wipe σ2 vs = wipe σ vs ∧ tt σ2 H2 fun b H3 =>
      if b = true then te σ2 H3 fun y H4 => ∃ acc, H4 p = some (.lst acc) ∧ acc.length < sizeLine ∧ Pv p (i + 1) (upd H4 p (.lst (acc ++ [y]))) else Pv p (i + 1) H3)
    (hd : ∀ p H, Pv p xs.length H → Q (.ref p) H) : Lc (Itt K a) g tt te vs σ H Q := fun p hp => lc_tup (Pv p) (h0 p _ (h.fr hp) (h.alloc hp)) (hl p) (hs p) (hd p)
/-- the element comes to the list -/
theorem h_lcE {p : Addr} {acc : List V} {P : Hp → Prop} (n : Nat) (h : Led K H0 S H L I) (e : L[n]? = some (p, .raw (.lst acc))) (hs : H0 p = none ∨ p ∈ S) (z : acc.length < sizeLine)
    (k : ∀ H', Led K H0 S H' (L.set n (p, .raw (.lst (acc ++ [y])))) I → P H') : ∃ acc, H p = some (.lst acc) ∧ acc.length < sizeLine ∧ P (upd H p (.lst (acc ++ [y]))) :=
  ⟨acc, h.raw n e, z, k _ (h.wr n e (fun b o q hb => by rw [upd_ne (by simpa using hb)]; exact q) (h.raw n e) rfl upd_same hs)⟩
theorem h_lcD {p : Addr} {ds : List PyData} {d : PyData} {P : Hp → Prop} (n : Nat) (h : Led K H0 S H L I) (e : L[n]? = some (p, .dl ds)) (hd : Im K H y d) (hs : H0 p = none ∨ p ∈ S) (z : ds.length < sizeLine)
    (k : ∀ H', Led K H0 S H' (L.set n (p, .dl (ds ++ [d]))) I → P H') : ∃ acc, H p = some (.lst acc) ∧ acc.length < sizeLine ∧ P (upd H p (.lst (acc ++ [y]))) := by
  obtain ⟨xs, ha, hx⟩ := h.at_ n p _ e
  have hk : KBs H (upd H p (.lst (xs ++ [y]))) [p] := fun b o q hb => by rw [upd_ne (by simpa using hb)]; exact q
  have hN : NoT H [p] := NoT.one ha rfl
  exact ⟨xs, ha, by rw [hx.len]; exact z, k _ (h.wr n e hk ha rfl ⟨_, upd_same, (hx.keep hk hN).app (Ims.one (hd.keep hk hN))⟩ hs)⟩
theorem h_accL {p : Addr} {acc : List V} (n : Nat) (h : Led K H0 S H L I) (e : L[n]? = some (p, .raw (.lst acc))) (hs : H0 p = none ∨ p ∈ S) (z : acc.length < sizeLine) :
    ∃ acc', H p = some (.lst acc') ∧ acc'.length < sizeLine ∧ Led K H0 S (upd H p (.lst (acc' ++ [y]))) (L.set n (p, .raw (.lst (acc ++ [y])))) I :=
  h_lcE (P := fun H' => Led K H0 S H' (L.set n (p, .raw (.lst (acc ++ [y])))) I) n h e hs z fun H' h' => h'
theorem h_accD {p : Addr} {ds : List PyData} {d : PyData} (n : Nat) (h : Led K H0 S H L I) (e : L[n]? = some (p, .dl ds)) (hd : Im K H y d) (hs : H0 p = none ∨ p ∈ S) (z : ds.length < sizeLine) :
    ∃ acc, H p = some (.lst acc) ∧ acc.length < sizeLine ∧ Led K H0 S (upd H p (.lst (acc ++ [y]))) (L.set n (p, .dl (ds ++ [d]))) I :=
  h_lcD (P := fun H' => Led K H0 S H' (L.set n (p, .dl (ds ++ [d]))) I) n h e hd hs z fun H' h' => h'
theorem h_nT {A B : Prop} (k : B) : if (!true) = true then A else B := iteF k
theorem h_nF {A B : Prop} (k : A) : if (!false) = true then A else B := iteT k
theorem h_eqr {α : Type} {a : α} {P : Prop} (k : P) : a = a ∧ P := ⟨rfl, k⟩
/-- a while by an invariant and a number that falls -/
theorem lpW {c : TT} (Pv : Nat → L2.St → Hp → Prop) (m0 : Nat) (h0 : Pv m0 σ H)
    (hs : ∀ m σ H, Pv m σ H → c σ H fun b H1 => if b = true then ∃ N : L2.St → Hp → Prop, (∀ σ' H', N σ' H' → ∃ m', m' < m ∧ Pv m' σ' H') ∧ tb { D with nx := N, ct := N, bk := D.nx } σ H1 else D.nx σ H1) : tWhile c tb D σ H :=
  ⟨Pv, ⟨m0, h0⟩, hs⟩
/-- a list of ints, from a list of numbers -/
theorem Led.toD (h : Led K H0 S H L I) (n : Nat) {a : Addr} {xs : List V} {ds : List PyData} (e : L[n]? = some (a, .raw (.lst xs))) (hd : Ims K H xs ds) : Led K H0 S H (L.set n (a, .dl ds)) I := by
  have hn : n < L.length := (List.getElem?_eq_some_iff.mp e).1
  refine ⟨?_, fun m b x r => ?_, h.im, h.kp⟩
  · have e2 : (L.set n (a, Ent.dl ds)).map (·.1) = L.map (·.1) := by
      rw [List.map_set]
      refine List.ext_getElem? fun i => ?_
      by_cases hi : n = i
      · subst hi
        rw [List.getElem?_set_self (by rw [List.length_map]; exact hn), List.getElem?_map, e]
        rfl
      · rw [List.getElem?_set_ne hi]
    rw [e2]
    exact h.nd
  · by_cases hm : n = m
    · subst hm
      rw [List.getElem?_set_self hn] at r
      cases r
      exact ⟨xs, h.raw n e, hd⟩
    · rw [List.getElem?_set_ne hm] at r
      exact h.at_ m b x r
/-- loops over data -/
theorem Im.isRef {ds : List PyData} (h : Im K H v (.tuple ds)) : ∃ a, v = .ref a := by
  cases h with
  | tup _ _ => exact ⟨_, rfl⟩
theorem lpTI {a : Addr} {ds : List PyData} (Pv : Nat → L2.St → Hp → Prop) (h0 : Pv 0 σ H) (hl : ∀ i σ H, i ≤ ds.length → Pv i σ H → Im K H (.ref a) (.tuple ds))
    (hs : ∀ i x d σ H, ds[i]? = some d → Im K H x d → Pv i σ H → g x σ H fun σ2 H2 => tb { D with nx := Pv (i + 1), ct := Pv (i + 1), bk := D.nx } σ2 H2) (hd : ∀ σ H, Pv ds.length σ H → D.nx σ H) : Lp (Itt K a) g tb D σ H := by
  refine ⟨fun i m σ H => m = ds.length - i ∧ i ≤ ds.length ∧ Pv i σ H, ⟨ds.length, rfl, Nat.zero_le _, h0⟩, ?_⟩
  rintro i m σ H ⟨rfl, hi, p⟩
  cases hl i σ H hi p with
  | @tup _ xs _ hq hx =>
    have hlen := hx.len
    by_cases hlt : i < ds.length
    · have hlt2 : i < xs.length := by omega
      refine .inr ⟨⟨xs, xs[i], hq, List.getElem?_eq_getElem hlt2⟩, Pv (i + 1), fun σ' H' p' => ⟨ds.length - (i + 1), by omega, rfl, hlt, p'⟩, fun x H' y => ?_⟩
      obtain ⟨e, y⟩ := y
      subst e
      obtain ⟨d, hd1, hd2⟩ := hx.get (y xs hq)
      exact hs i x d σ _ hd1 hd2 p
    · have e : i = ds.length := by omega
      subst e
      exact .inl ⟨⟨xs, hq, by omega⟩, hd σ H p⟩
theorem lpLD {a : Addr} {ds : List PyData} (Pv : Nat → L2.St → Hp → Prop) (h0 : Pv 0 σ H) (hl : ∀ i σ H, i ≤ ds.length → Pv i σ H → EntAt K H a (.dl ds))
    (hs : ∀ i x d σ H, ds[i]? = some d → Im K H x d → Pv i σ H → g x σ H fun σ2 H2 => tb { D with nx := Pv (i + 1), ct := Pv (i + 1), bk := D.nx } σ2 H2) (hd : ∀ σ H, Pv ds.length σ H → D.nx σ H) : Lp (Itl K a) g tb D σ H := by
  refine ⟨fun i m σ H => m = ds.length - i ∧ i ≤ ds.length ∧ Pv i σ H, ⟨ds.length, rfl, Nat.zero_le _, h0⟩, ?_⟩
  rintro i m σ H ⟨rfl, hi, p⟩
  obtain ⟨xs, ha, hx⟩ := hl i σ H hi p
  have hq : SqL K H a xs := SqL.of ha
  have hlen := hx.len
  by_cases hlt : i < ds.length
  · have hlt2 : i < xs.length := by omega
    refine .inr ⟨⟨xs, xs[i], hq, List.getElem?_eq_getElem hlt2⟩, Pv (i + 1), fun σ' H' p' => ⟨ds.length - (i + 1), by omega, rfl, hlt, p'⟩, fun x H' y => ?_⟩
    obtain ⟨e, y⟩ := y
    subst e
    obtain ⟨d, hd1, hd2⟩ := hx.get (y xs hq)
    exact hs i x d σ _ hd1 hd2 p
  · have e : i = ds.length := by omega
    subst e
    exact .inl ⟨⟨xs, hq, by omega⟩, hd σ H p⟩
theorem lcLD {a : Addr} {ds : List PyData} (h : Led K H0 S H L I) (Pv : Addr → Nat → Hp → Prop) (h0 : ∀ p H', H0 p = none ∨ p ∈ S → Led K H0 S H' ((p, .raw (.lst [])) :: L) I → Pv p 0 H')
    (hl : ∀ p i H, i ≤ ds.length → Pv p i H → EntAt K H a (.dl ds))
    (hs : ∀ p i x d H, ds[i]? = some d → Im K H x d → Pv p i H → g x (wipe σ vs) H fun σ2 H2 => wipe σ2 vs = wipe σ vs ∧ tt σ2 H2 fun b H3 =>
      if b = true then te σ2 H3 fun y H4 => ∃ acc, H4 p = some (.lst acc) ∧ acc.length < sizeLine ∧ Pv p (i + 1) (upd H4 p (.lst (acc ++ [y]))) else Pv p (i + 1) H3)
    (hd : ∀ p H, Pv p ds.length H → Q (.ref p) H) : Lc (Itl K a) g tt te vs σ H Q := by
  intro p hp
  refine ⟨fun i m H => m = ds.length - i ∧ i ≤ ds.length ∧ Pv p i H, ⟨ds.length, rfl, Nat.zero_le _, h0 p _ (h.fr hp) (h.alloc hp)⟩, ?_⟩
  rintro i m H ⟨rfl, hi, q⟩
  obtain ⟨xs, ha, hx⟩ := hl p i H hi q
  have hq : SqL K H a xs := SqL.of ha
  have hlen := hx.len
  by_cases hlt : i < ds.length
  · have hlt2 : i < xs.length := by omega
    refine .inr ⟨⟨xs, xs[i], hq, List.getElem?_eq_getElem hlt2⟩, Pv p (i + 1), fun H' p' => ⟨ds.length - (i + 1), by omega, rfl, hlt, p'⟩, fun x H' y => ?_⟩
    obtain ⟨e, y⟩ := y
    subst e
    obtain ⟨d, hd1, hd2⟩ := hx.get (y xs hq)
    exact hs p i x d _ hd1 hd2 q
  · have e : i = ds.length := by omega
    subst e
    exact .inl ⟨⟨xs, hq, by omega⟩, hd p H q⟩
/-- data's form -/
def lay (n : Nat) (d : PyData) : Prop := d.canLay0 = true ∧ d.depth ≤ n
theorem lay_all : ∀ {n : Nat} {ds : List PyData}, (∀ d ∈ ds, lay n d) → PyData.canLayAll0 ds = true ∧ PyData.depthAll ds ≤ n
  | n, [], _ => ⟨by simp [PyData.canLayAll0], by simp [PyData.depthAll]⟩
  | n, d :: ds, h => by
    obtain ⟨h1, h2⟩ := h d List.mem_cons_self
    obtain ⟨h3, h4⟩ := lay_all (n := n) (ds := ds) fun x hx => h x (List.mem_cons_of_mem _ hx)
    refine ⟨by simp [PyData.canLayAll0, h1, h3], ?_⟩
    simp only [PyData.depthAll]
    omega
theorem lay_list {n : Nat} {ds : List PyData} (h : ∀ d ∈ ds, lay n d) : lay (n + 1) (.list ds) := by
  obtain ⟨h1, h2⟩ := lay_all h
  refine ⟨by simp [PyData.canLay0, h1], ?_⟩
  simp only [PyData.depth]
  omega
theorem lay_tup {n : Nat} {ds : List PyData} (h : ∀ d ∈ ds, lay n d) : lay (n + 1) (.tuple ds) := by
  obtain ⟨h1, h2⟩ := lay_all h
  refine ⟨by simp [PyData.canLay0, h1], ?_⟩
  simp only [PyData.depth]
  omega
theorem lay.shaped {n : Nat} {d : PyData} (h : lay n d) (hn : n ≤ 64 := by decide) : SeqAt.shaped d = true := by
  unfold SeqAt.shaped
  rw [h.1, decide_eq_true (Nat.le_trans h.2 hn)]
  rfl
theorem lay_int (i : Int) : lay 0 (.int i) := ⟨by simp [PyData.canLay0], by simp [PyData.depth]⟩
theorem lay_bool (b : Bool) : lay 0 (.bool b) := ⟨by simp [PyData.canLay0], by simp [PyData.depth]⟩
theorem lay_none : lay 0 .none := ⟨by simp [PyData.canLay0], by simp [PyData.depth]⟩
theorem lay_str {x : Str} (h : PyData.strOk x = true) : lay 0 (.str x) := ⟨by simp [PyData.canLay0, h], by simp [PyData.depth]⟩
theorem lay.up {n m : Nat} {d : PyData} (h : lay n d) (hm : n ≤ m) : lay m d := ⟨h.1, Nat.le_trans h.2 hm⟩
/-- in, not in -/
theorem Led.dpL (h : Led K H0 S H L I) (n : Nat) {a : Addr} {ds : List PyData} (e : L[n]? = some (a, .dl ds)) : Dp K H (.ref a) (.list ds) := by
  obtain ⟨xs, ha, hx⟩ := h.at_ n a _ e
  exact .lst (SqL.of ha) hx.dp
theorem h_ninD (n : Nat) (h : Led K H0 S H L I) {a : Addr} {ds : List PyData} {d : PyData} (e : L[n]? = some (a, .dl ds)) (hx : Im K H x d) (h1 : SeqAt.shaped d = true) (h2 : SeqAt.shaped (.list ds) = true) (k : Q (.bl (!ds.any fun z => PyData.eqv z d)) H) : uNin K x (.ref a) H Q :=
  .inr ⟨d, ds, hx.dp, h.dpL n e, h1, h2, k⟩
theorem h_inD (n : Nat) (h : Led K H0 S H L I) {a : Addr} {ds : List PyData} {d : PyData} (e : L[n]? = some (a, .dl ds)) (hx : Im K H x d) (h1 : SeqAt.shaped d = true) (h2 : SeqAt.shaped (.list ds) = true) (k : Q (.bl (ds.any fun z => PyData.eqv z d)) H) : uIn K x (.ref a) H Q :=
  .inr ⟨d, ds, hx.dp, h.dpL n e, h1, h2, k⟩
theorem at_map {α : Type} {f : α → V} {l : List α} {i : Int} (h0 : 0 ≤ i) (h : i < l.length) : ∃ z ∈ l, l[i.toNat]? = some z ∧ atI (l.map f) i = some (f z) := by
  have h2 : i.toNat < l.length := by omega
  refine ⟨l[i.toNat], List.getElem_mem h2, List.getElem?_eq_getElem h2, at_nn h0 ?_⟩
  rw [List.getElem?_map, List.getElem?_eq_getElem h2]
  rfl
/-- slices of tuples -/
def cutD (xs : List PyData) (lo hi : Option Int) : List PyData := (xs.drop (HT.sIx xs.length 0 lo)).take (HT.sIx xs.length xs.length hi - HT.sIx xs.length 0 lo)
theorem h_slT {a : Addr} {ds : List PyData} {lo hi : Option Int} (h : Led K H0 S H L I) (hd : Im K H (.ref a) (.tuple ds)) (k : ∀ p H', Led K H0 S H' L ((.ref p, .tuple (cutD ds lo hi)) :: I) → Q (.ref p) H') : uSl K (.ref a) lo hi H Q := by
  cases id hd with
  | @tup _ xs _ hq hx =>
    have hlen := hx.len
    refine .inr (.inl ⟨a, xs, rfl, hq, fun hw => ?_, fun hw p hp => ?_⟩)
    · refine k a H (h.imNew ?_)
      have e : cutD ds lo hi = ds := by
        unfold cutD
        rw [← hlen, hw.1, hw.2, hlen, List.drop_zero]
        exact List.take_of_length_le (Nat.le_refl _)
      rw [e]
      exact hd
    · refine k p _ (h.allocT hp ?_)
      unfold cutD cutV
      rw [hlen]
      exact Ims.take _ (Ims.drop _ hx)
theorem cutD_pre (ds : List PyData) (k : Nat) : cutD ds none (some (k : Int)) = ds.take k := by
  unfold cutD
  rw [HT.sIx_none, HT.sIx_nat, List.drop_zero, Nat.sub_zero]
  by_cases h : k ≤ ds.length
  · rw [Nat.min_eq_left h]
  · rw [Nat.min_eq_right (by omega), List.take_of_length_le (Nat.le_refl _), List.take_of_length_le (by omega)]
theorem cutD_suf (ds : List PyData) (k : Nat) : cutD ds (some (k : Int)) none = ds.drop k := by
  unfold cutD
  rw [HT.sIx_none, HT.sIx_nat]
  by_cases h : k ≤ ds.length
  · rw [Nat.min_eq_left h]
    exact List.take_of_length_le (by rw [List.length_drop]; exact Nat.le_refl _)
  · rw [Nat.min_eq_right (by omega), List.drop_eq_nil_of_le (Nat.le_refl _), List.drop_eq_nil_of_le (by omega), List.take_nil]
theorem h_slPre {a : Addr} {ds : List PyData} (h : Led K H0 S H L I) (hd : Im K H (.ref a) (.tuple ds)) (h0 : 0 ≤ i) (k : ∀ p H', Led K H0 S H' L ((.ref p, .tuple (ds.take i.toNat)) :: I) → Q (.ref p) H') : uSl K (.ref a) none (some i) H Q :=
  h_slT h hd fun p H' h' => k p H' (by
    have e : cutD ds none (some i) = ds.take i.toNat := by
      have q := cutD_pre ds i.toNat
      rw [Int.toNat_of_nonneg h0] at q
      exact q
    rw [e] at h'
    exact h')
/-- == of data -/
theorem h_eqD {d e : PyData} (hx : Dp K H x d) (hy : Dp K H y e) (h1 : SeqAt.shaped d = true) (h2 : SeqAt.shaped e = true) (k : Q (.bl (PyData.eqv d e)) H) : hEq K x y H Q := .inr ⟨d, e, hx, hy, h1, h2, k⟩
theorem h_neD {d e : PyData} (hx : Dp K H x d) (hy : Dp K H y e) (h1 : SeqAt.shaped d = true) (h2 : SeqAt.shaped e = true) (k : Q (.bl (!PyData.eqv d e)) H) : hNe K x y H Q := .inr ⟨d, e, hx, hy, h1, h2, k⟩
theorem h_eqI {d e : PyData} (hx : Im K H x d) (hy : Im K H y e) (h1 : SeqAt.shaped d = true) (h2 : SeqAt.shaped e = true) (k : Q (.bl (PyData.eqv d e)) H) : hEq K x y H Q := h_eqD hx.dp hy.dp h1 h2 k
theorem h_neI {d e : PyData} (hx : Im K H x d) (hy : Im K H y e) (h1 : SeqAt.shaped d = true) (h2 : SeqAt.shaped e = true) (k : Q (.bl (!PyData.eqv d e)) H) : hNe K x y H Q := h_neD hx.dp hy.dp h1 h2 k
/-- tuple(list) -/
theorem h_tupOf (n : Nat) (h : Led K H0 S H L I) {a : Addr} {ds : List PyData} (e : L[n]? = some (a, .dl ds)) (k : ∀ p H', Led K H0 S H' L ((.ref p, .tuple ds) :: I) → Q (.ref p) H') : hTupOf K [.ref a] H Q := by
  obtain ⟨xs, ha, hx⟩ := h.at_ n a _ e
  exact ⟨a, xs, rfl, .inl ⟨SqL.of ha, fun p hp => k p _ (h.allocT hp hx)⟩⟩
theorem h_listOf (n : Nat) (h : Led K H0 S H L I) {a : Addr} {xs : List V} (e : L[n]? = some (a, .raw (.lst xs))) (k : ∀ p H', (H0 p = none ∨ p ∈ S) → Led K H0 S H' ((p, .raw (.lst xs)) :: L) I → Q (.ref p) H') : hListOf K [.ref a] H Q :=
  ⟨a, xs, rfl, .inl (h.sqL n e), fun p hp => k p _ (h.fr hp) (h.alloc hp)⟩
/-- isinstance of a bool, an int -/
theorem h_isiB {b : Bool} (k : Q (.bl true) H) : rIsi K [.bl b, .ty "bool"] H Q := ⟨_, _, _, _, true, rfl, .ty "bool", .base (.bl b), kit_ty (by decide +kernel), k⟩
theorem Led.tl {q : V × PyData} (h : Led K H0 S H L (q :: I)) : Led K H0 S H L I := ⟨h.nd, h.at_, fun n v d e => h.im (n + 1) v d e, h.kp⟩
theorem Led.tlL {q : Addr × Ent} (h : Led K H0 S H (q :: L) I) : Led K H0 S H L I := ⟨(List.nodup_cons.mp h.nd).2, fun n a d e => h.at_ (n + 1) a d e, h.im, h.kp⟩
theorem Led.noI (h : Led K H0 S H L I) : Led K H0 S H L [] := ⟨h.nd, h.at_, fun n v d e => by simp at e, h.kp⟩
theorem any_take {α : Type} {l : List α} {i : Nat} {x : α} (h : l[i]? = some x) (f : α → Bool) : (l.take (i + 1)).any f = ((l.take i).any f || f x) := by
  rw [List.take_add_one, h, List.any_append]
  simp
theorem any_of {α : Type} {l : List α} {i : Nat} {x : α} (h : l[i]? = some x) {f : α → Bool} (hf : f x = true) : l.any f = true := List.any_eq_true.mpr ⟨x, List.mem_of_getElem? h, hf⟩
theorem map_get {α β : Type} {f : α → β} {l : List α} {i : Nat} {d : β} (h : (l.map f)[i]? = some d) : ∃ z, l[i]? = some z ∧ f z = d := by
  rw [List.getElem?_map] at h
  exact Option.map_eq_some_iff.mp h
theorem map_take {α β : Type} {l : List α} {i : Nat} {x : α} (h : l[i]? = some x) (f : α → β) : (l.take i).map f ++ [f x] = (l.take (i + 1)).map f := by
  rw [List.take_add_one, h, List.map_append]
  rfl
theorem snoc_map {α β : Type} (l : List α) (x : α) (f : α → β) : l.map f ++ [f x] = (l ++ [x]).map f := by rw [List.map_append]; rfl
theorem map_snoc (ds : List Int) (z : Int) : ds.map V.int ++ [V.int z] = (ds ++ [z]).map V.int := by rw [List.map_append]; rfl
/-- unpacking -/
theorem h_gtup {n : Nat} {a : Addr} {ds : List PyData} {gs : TGs} {Q : L2.St → Hp → Prop} (h : Im K H (.ref a) (.tuple ds)) (hn : ds.length = n) (k : ∀ xs, Ims K H xs ds → gs xs σ H Q) : gTup K n gs (.ref a) σ H Q := by
  cases h with
  | tup hs ha => exact ⟨a, _, rfl, hs, ha.len.trans hn, k _ ha⟩
theorem h_gtup2 {a : Addr} {d1 d2 : PyData} {gs : TGs} {Q : L2.St → Hp → Prop} (h : Im K H (.ref a) (.tuple [d1, d2])) (k : ∀ v1 v2, Im K H v1 d1 → Im K H v2 d2 → gs [v1, v2] σ H Q) : gTup K 2 gs (.ref a) σ H Q :=
  h_gtup h rfl fun xs hx => by
    cases hx with
    | cons h1 t =>
      cases t with
      | cons h2 t =>
        cases t
        exact k _ _ h1 h2
end

/-! ### raise and try -/
def mRaise0 (C : Addr) (W : WX) : TS := fun _ σ H => W (.ref C) none σ H
/-- isinstance of a caught error without fields -/
def rIsX (K : PySem.W.Frag) (cls : Value) (d : Option Addr) (a : Addr) : RCall := fun xs H Q => ∃ (c : V) (cv : Value) (D : Addr) (b : Bool), cls = .ref D ∧ d = none ∧ ExcC K D ∧ xs = [.ref a, c] ∧ (∀ u, RelV c u → u = cv) ∧ PySem.W.kitOne K (.ref D) cv = some b ∧ Q (.bl b) H
abbrev TCl := Addr → Value → Option Addr → TS
def mTryAs (K : PySem.W.Frag) (c : Value) (i : Nat) (tb : WX → TS) (ts : TCl) (Wout : WX) : TS := fun D σ H => tb (wAs K c i ts Wout D) D σ H
def mTryOnly (K : PySem.W.Frag) (c : Value) (tb : WX → TS) (ts : TCl) (Wout : WX) : TS := fun D σ H => tb (wOnly K c ts Wout D) D σ H
def wNo : WX := fun _ _ _ _ => False
section
variable {X : Cx}
theorem pmk_own0 {C : Addr} {bmB : List Value} {B newId initId : String} {x : Str} {p pos : Pos} (F : ExcBaseFacts B newId initId bmB) (q : PySem.W.excIn X.K C bmB newId = true) (gC : X.mg x = some (.ref C)) (kC : PySem.W.keepIn X.K (.ref C) = true) (r : Raises X (.ref C)) (hg : Gl X x)
    (hdb : (x == ("__debug__" : Str)) = false := by decide) : PMk X (.Call (.Name x p) [] [] pos) (fun _ H Q => Q (.ref C) none H) := by
  intro pins s σ H Q I h
  refine wpAny_Call_Name_kw (ld_glob I hg gC ?_ hdb)
  refine PySem.W.callWith_K0 I.kIn kC ?_
  show wpAny _ _ (call (.ref C) []) _ _ _
  obtain ⟨bm, N, nm, qn, bs, hdct, sn, sub, ab, col, dd, k0, k1, k2, k3, k5, mN, hC, hN, hni, T⟩ := exc_obj I.kIn q
  refine wpAny_call_exc_subT F T hC hN hni (fun h' e hm => ?_) (Nat.zero_le _)
  exact mk_of I hm r h (I.hok.gone hm.new)
theorem p_raise0 {W : WX} {C : Addr} {bmB : List Value} {B newId initId : String} {x : Str} {p pos pos2 : Pos} (hc : X.calm = true) (tk : Takes X W) (F : ExcBaseFacts B newId initId bmB) (q : PySem.W.excIn X.K C bmB newId = true) (gC : X.mg x = some (.ref C)) (kC : PySem.W.keepIn X.K (.ref C) = true) (b1 : PySem.W.subIn X.K (.ref C) (.type "BaseException") = some true) (b2 : PySem.W.typeIn X.K (.ref C) = some (.type "type")) (hg : Gl X x)
    (hdb : (x == ("__debug__" : Str)) = false := by decide) : PS X (.Raise (some (.Call (.Name x p) [] [] pos)) none pos2) (mRaise0 C W) := ps_raise hc tk (pmk_own0 F q gC kC (raises_own b1 b2) hg hdb)
theorem call_isX {a : Addr} {cls : Value} {d : Option Addr} {oe : Obj} {pn : List (Addr × Obj)} (hz : Zc cls d oe) (hf : ∃ vs, oe.data = .fields vs) : CallR (X.suite a ((a, oe) :: pn)) (.builtin "isinstance") (rIsX X.K cls d a) := by
  intro pins s σ H xs us Q I r h
  obtain ⟨c, cv, D, b, rfl, rfl, C, hx, hcv, e, q⟩ := h
  exact call_isE C hz hf pins s σ H xs us Q I r ⟨c, cv, b, hx, hcv, e, q⟩
theorem p_tryAs {x n : Str} {c : Value} {i : Nat} {body suite : List Stmt} {b₀ : Stmt} {np pos pos' : Pos} {tb : WX → TS} {ts : TCl} {Wout : WX} (hs : X.stack = X.env :: X.outer) (hf : X.env.frame = some X.env.locals) (hN : X.N.Nodup) (hi : X.N[i]? = some n) (hln : X.env.kindOf n = some .local) (hc : Names X x c) (tk : Takes X Wout)
    (hb : ∀ (W : WX) (pn : List (Addr × Obj)) (xe : Value → Shared → Prop), Takes (X.tr pn xe) W → PassesOwn (model X.prog X.w) X.A X.env xe → PSs (X.tr pn xe) body (tb W))
    (hsu : ∀ (a : Addr) (oe : Obj) (cls : Value) (d : Option Addr) (pn : List (Addr × Obj)), Zc cls d oe → (∃ vs, oe.data = .fields vs) → PSs (X.suite a ((a, oe) :: pn)) (b₀ :: suite) (ts a cls d)) :
    PS X (.Try body [.ExceptHandler (some (.Name x np)) (some n) (b₀ :: suite) pos'] [] [] pos) (mTryAs X.K c i tb ts Wout) := ps_try_as hs hf hN hi hln hc tk hb hsu
theorem p_tryOnly {x : Str} {c : Value} {body suite : List Stmt} {b₀ : Stmt} {np pos pos' : Pos} {tb : WX → TS} {ts : TCl} {Wout : WX} (hs : X.stack = X.env :: X.outer) (hf : X.env.frame = some X.env.locals) (hc : Names X x c) (tk : Takes X Wout)
    (hb : ∀ (W : WX) (pn : List (Addr × Obj)) (xe : Value → Shared → Prop), Takes (X.tr pn xe) W → PassesOwn (model X.prog X.w) X.A X.env xe → PSs (X.tr pn xe) body (tb W))
    (hsu : ∀ (a : Addr) (oe : Obj) (cls : Value) (d : Option Addr) (pn : List (Addr × Obj)), Zc cls d oe → (∃ vs, oe.data = .fields vs) → PSs (X.suite a ((a, oe) :: pn)) (b₀ :: suite) (ts a cls d)) :
    PS X (.Try body [.ExceptHandler (some (.Name x np)) none (b₀ :: suite) pos'] [] [] pos) (mTryOnly X.K c tb ts Wout) := ps_try_only hs hf hc tk hb hsu
theorem takesNo {X : Cx} : Takes X wNo := takes0
end
theorem exm_r {K : PySem.W.Frag} {C : Addr} {cls : Value} {b : Bool} (h1 : PySem.W.subIn K (.ref C) (.type "BaseException") = some true) (h2 : PySem.W.isClsIn K C = true) (h3 : PySem.W.typeIn K (.ref C) = some (.type "type")) (h4 : PySem.W.subIn K cls (.ref C) = some b) : PySem.W.exmOne K cls (.ref C) = some b := by
  have e1 : (PySem.W.subIn K (.ref C) (.type "BaseException") == some true) = true := by rw [h1] <;> rfl
  have h2' : (PySem.W.clsIn K C).isSome = true := h2
  have e2 : ((PySem.W.clsIn K C).isSome && PySem.W.typeIn K (.ref C) == some (.type "type")) = true := by rw [h2', h3] <;> rfl
  show (if (PySem.W.subIn K (.ref C) (.type "BaseException") == some true) = true then (if ((PySem.W.clsIn K C).isSome && PySem.W.typeIn K (.ref C) == some (.type "type")) = true then PySem.W.subIn K cls (.ref C) else none) else none) = some b
  rw [if_pos e1, if_pos e2]
  exact h4
theorem kit_r {K : PySem.W.Frag} {C D : Addr} {b : Bool} (h2 : PySem.W.isClsIn K C = true) (h3 : PySem.W.typeIn K (.ref C) = some (.type "type")) (h4 : PySem.W.subIn K (.ref D) (.ref C) = some b) (h5 : D = C → b = true) : PySem.W.kitOne K (.ref D) (.ref C) = some b := by
  have h2' : (PySem.W.clsIn K C).isSome = true := h2
  have e2 : ((PySem.W.clsIn K C).isSome && PySem.W.typeIn K (.ref C) == some (.type "type")) = true := by rw [h2', h3] <;> rfl
  unfold PySem.W.kitOne
  by_cases h : (Value.ref D == Value.ref C) = true
  · rw [if_pos h, h5 (Value.ref.inj (beq_iff_eq.mp h))]
  · rw [if_neg h]
    show (if ((PySem.W.clsIn K C).isSome && PySem.W.typeIn K (.ref C) == some (.type "type")) = true then PySem.W.subIn K (.ref D) (.ref C) else none) = some b
    rw [if_pos e2]
    exact h4
theorem kit_t {K : PySem.W.Frag} {D : Addr} {T : String} {b : Bool} (h2 : PySem.W.kitMeta T = true) (h4 : PySem.W.subIn K (.ref D) (.type T) = some b) : PySem.W.kitOne K (.ref D) (.type T) = some b := by
  unfold PySem.W.kitOne
  rw [if_neg (by intro h; exact nomatch beq_iff_eq.mp h)]
  show (if PySem.W.kitMeta T = true then PySem.W.subIn K (.ref D) (.type T) else none) = some b
  rw [if_pos h2]
  exact h4
/-- a copy the other way round -/
def revK (K : PySem.W.Frag) (x : V) (H1 : Hp) (Q : VK) : Prop := ∃ a xs, x = .ref a ∧ SqL K H1 a xs ∧ ∀ p, H1 p = none → Q (.ref p) (upd H1 p (.lst xs.reverse))
section
variable {K : PySem.W.Frag} {σ : L2.St} {H H0 : Hp} {S : List Addr} {L : List (Addr × Ent)} {I : List (V × PyData)} {Q : VK} {D : Ends} {v x y : V} {i j : Int} {A : TA} {te : TE} {W Wout : WX} {c cls : Value} {d : Option Addr} {tb : WX → TS} {ts : TCl} {m : Nat} {C : Addr}
theorem a_callS {sp : Sp} {E : L2.St → XK} : tCallS sp E A σ H Q = A σ H fun vs H1 => sp vs H1 Q (E σ) := rfl
theorem a_raise0 : mRaise0 C W D σ H = W (.ref C) none σ H := rfl
theorem a_tryAs : mTryAs K c m tb ts Wout D σ H = tb (wAs K c m ts Wout D) D σ H := rfl
theorem a_tryOnly : mTryOnly K c tb ts Wout D σ H = tb (wOnly K c ts Wout D) D σ H := rfl
theorem a_rev : tRevL K te σ H Q = te σ H fun x H1 => revK K x H1 Q := rfl
theorem h_wAsT (hm : PySem.W.exmOne K cls c = some true) (k : ∀ a, H a = none → ts a cls d { nx := fun σ' H' => D.nx (σ'.set m none) H', rt := D.rt, bk := fun σ' H' => D.bk (σ'.set m none) H', ct := fun σ' H' => D.ct (σ'.set m none) H' } (σ.set m (some (.ref a))) H) : wAs K c m ts Wout D cls d σ H :=
  ⟨true, hm, fun _ => k, fun z => nomatch z⟩
theorem h_wOnlyT (hm : PySem.W.exmOne K cls c = some true) (k : ∀ a, H a = none → ts a cls d D σ H) : wOnly K c ts Wout D cls d σ H := ⟨true, hm, fun _ => k, fun z => nomatch z⟩
theorem h_wAsF (hm : PySem.W.exmOne K cls c = some false) (k : Wout cls d σ H) : wAs K c m ts Wout D cls d σ H := ⟨false, hm, fun z => absurd z Bool.false_ne_true, fun _ => k⟩
theorem h_wOnlyF (hm : PySem.W.exmOne K cls c = some false) (k : Wout cls d σ H) : wOnly K c ts Wout D cls d σ H := ⟨false, hm, fun z => absurd z Bool.false_ne_true, fun _ => k⟩
theorem h_isXr {a C D : Addr} {b : Bool} (hD : ExcC K D) (hk : PySem.W.kitOne K (.ref D) (.ref C) = some b) (k : Q (.bl b) H) : rIsX K (.ref D) none a [.ref a, .ref C] H Q :=
  ⟨_, _, D, b, rfl, rfl, hD, rfl, fun _ r => r, hk, k⟩
theorem h_isXt {a D : Addr} {T : String} {b : Bool} (hD : ExcC K D) (hk : PySem.W.kitOne K (.ref D) (.type T) = some b) (k : Q (.bl b) H) : rIsX K (.ref D) none a [.ref a, .ty T] H Q :=
  ⟨_, _, D, b, rfl, rfl, hD, rfl, fun _ r => r, hk, k⟩
/-! ### lists of whole numbers -/
def cutI {α : Type} (xs : List α) (lo hi : Option Int) : List α := (xs.drop (HT.sIx xs.length 0 lo)).take (HT.sIx xs.length xs.length hi - HT.sIx xs.length 0 lo)
theorem cutI_map {α β : Type} (f : α → β) (xs : List α) (lo hi : Option Int) : cutI (xs.map f) lo hi = (cutI xs lo hi).map f := by
  unfold cutI
  rw [List.length_map, List.map_take, List.map_drop]
theorem sIx_nn {n d : Nat} {i : Int} (h : 0 ≤ i) : HT.sIx n d (some i) = min i.toNat n := by
  show (if i < 0 then (i + (n : Int)).toNat else min i.toNat n) = _
  rw [if_neg (by omega)]
theorem cutI_two {α : Type} (xs : List α) {i j : Int} (hi : 0 ≤ i) (hj : 0 ≤ j) : cutI xs (some i) (some j) = (xs.take j.toNat).drop i.toNat := by
  unfold cutI
  rw [sIx_nn hi, sIx_nn hj, List.drop_take]
  by_cases h : i.toNat ≤ xs.length
  · rw [Nat.min_eq_left h]
    by_cases h2 : j.toNat ≤ xs.length
    · rw [Nat.min_eq_left h2]
    · rw [Nat.min_eq_right (by omega), List.take_of_length_le (by rw [List.length_drop]; exact Nat.le_refl _), List.take_of_length_le (by rw [List.length_drop]; omega)]
  · rw [Nat.min_eq_right (show xs.length ≤ i.toNat by omega), List.drop_eq_nil_of_le (Nat.le_refl xs.length), List.drop_eq_nil_of_le (show xs.length ≤ i.toNat by omega), List.take_nil, List.take_nil]
theorem cutI_pre {α : Type} (xs : List α) {j : Int} (hj : 0 ≤ j) : cutI xs none (some j) = xs.take j.toNat := by
  unfold cutI
  rw [sIx_nn hj, HT.sIx_none, List.drop_zero, Nat.sub_zero]
  by_cases h2 : j.toNat ≤ xs.length
  · rw [Nat.min_eq_left h2]
  · rw [Nat.min_eq_right (by omega), List.take_of_length_le (Nat.le_refl _), List.take_of_length_le (by omega)]
theorem cutI_suf {α : Type} (xs : List α) {i : Int} (hi : 0 ≤ i) : cutI xs (some i) none = xs.drop i.toNat := by
  unfold cutI
  rw [sIx_nn hi, HT.sIx_none]
  by_cases h : i.toNat ≤ xs.length
  · rw [Nat.min_eq_left h]
    exact List.take_of_length_le (by rw [List.length_drop]; exact Nat.le_refl _)
  · rw [Nat.min_eq_right (by omega), List.drop_eq_nil_of_le (Nat.le_refl _), List.drop_eq_nil_of_le (by omega), List.take_nil]
theorem h_slG (n : Nat) (h : Led K H0 S H L I) {a : Addr} {xs : List V} {lo hi : Option Int} (e : L[n]? = some (a, .raw (.lst xs))) (k : ∀ p H', (H0 p = none ∨ p ∈ S) → Led K H0 S H' ((p, .raw (.lst (cutI xs lo hi))) :: L) I → Q (.ref p) H') : uSl K (.ref a) lo hi H Q :=
  .inl ⟨a, xs, rfl, h.sqL n e, fun p hp => k p _ (h.fr hp) (h.alloc hp)⟩
theorem h_sl2 (n : Nat) (h : Led K H0 S H L I) {a : Addr} {ns : List Int} (e : L[n]? = some (a, .raw (.lst (ns.map V.int)))) (hi : 0 ≤ i) (hj : 0 ≤ j) (k : ∀ p H', (H0 p = none ∨ p ∈ S) → Led K H0 S H' ((p, .raw (.lst (((ns.take j.toNat).drop i.toNat).map V.int))) :: L) I → Q (.ref p) H') : uSl K (.ref a) (some i) (some j) H Q :=
  h_slG n h e (by rw [cutI_map, cutI_two ns hi hj]; exact k)
theorem h_slp (n : Nat) (h : Led K H0 S H L I) {a : Addr} {ns : List Int} (e : L[n]? = some (a, .raw (.lst (ns.map V.int)))) (hj : 0 ≤ j) (k : ∀ p H', (H0 p = none ∨ p ∈ S) → Led K H0 S H' ((p, .raw (.lst ((ns.take j.toNat).map V.int))) :: L) I → Q (.ref p) H') : uSl K (.ref a) none (some j) H Q :=
  h_slG n h e (by rw [cutI_map, cutI_pre ns hj]; exact k)
theorem h_sls (n : Nat) (h : Led K H0 S H L I) {a : Addr} {ns : List Int} (e : L[n]? = some (a, .raw (.lst (ns.map V.int)))) (hi : 0 ≤ i) (k : ∀ p H', (H0 p = none ∨ p ∈ S) → Led K H0 S H' ((p, .raw (.lst ((ns.drop i.toNat).map V.int))) :: L) I → Q (.ref p) H') : uSl K (.ref a) (some i) none H Q :=
  h_slG n h e (by rw [cutI_map, cutI_suf ns hi]; exact k)
theorem h_rev (n : Nat) (h : Led K H0 S H L I) {a : Addr} {ns : List Int} (e : L[n]? = some (a, .raw (.lst (ns.map V.int)))) (k : ∀ p H', (H0 p = none ∨ p ∈ S) → Led K H0 S H' ((p, .raw (.lst (ns.reverse.map V.int))) :: L) I → Q (.ref p) H') : revK K (.ref a) H Q :=
  ⟨a, _, rfl, h.sqL n e, fun p hp => by rw [← List.map_reverse]; exact k p _ (h.fr hp) (h.alloc hp)⟩
theorem h_reverse (n : Nat) (h : Led K H0 S H L I) {a : Addr} {ns : List Int} (e : L[n]? = some (a, .raw (.lst (ns.map V.int)))) (hs : H0 a = none ∨ a ∈ S) (k : ∀ H', Led K H0 S H' (L.set n (a, .raw (.lst (ns.reverse.map V.int)))) I → Q .non H') : rReverse (.ref a) [] H Q :=
  ⟨a, _, rfl, rfl, h.raw n e, by
    rw [← List.map_reverse]
    exact k _ (h.wr n e (fun b o q hb => by rw [upd_ne (by simpa using hb)]; exact q) (h.raw n e) rfl upd_same hs)⟩
/-- a + b of two lists, the one at n, the other at m -/
theorem h_catG (n m : Nat) (h : Led K H0 S H L I) {a b : Addr} {xs ys : List V} (e : L[n]? = some (a, .raw (.lst xs))) (e2 : L[m]? = some (b, .raw (.lst ys))) (z : xs.length + ys.length ≤ sizeLine) (k : ∀ p H', (H0 p = none ∨ p ∈ S) → Led K H0 S H' ((p, .raw (.lst (xs ++ ys))) :: L) I → Q (.ref p) H') : hAdd K (.ref a) (.ref b) H Q :=
  .inl ⟨a, b, xs, ys, rfl, rfl, h.raw n e, h.raw m e2, z, fun p hp => k p _ (h.fr hp) (h.alloc hp)⟩
theorem h_cat (n m : Nat) (h : Led K H0 S H L I) {a b : Addr} {xs ys : List Int} (e : L[n]? = some (a, .raw (.lst (xs.map V.int)))) (e2 : L[m]? = some (b, .raw (.lst (ys.map V.int)))) (z : xs.length + ys.length ≤ sizeLine) (k : ∀ p H', (H0 p = none ∨ p ∈ S) → Led K H0 S H' ((p, .raw (.lst ((xs ++ ys).map V.int))) :: L) I → Q (.ref p) H') : hAdd K (.ref a) (.ref b) H Q :=
  h_catG n m h e e2 (by rw [List.length_map, List.length_map]; exact z) (by rw [← List.map_append]; exact k)
/-- [z] * j -/
theorem h_rep (n : Nat) (h : Led K H0 S H L I) {a : Addr} {z : Int} (e : L[n]? = some (a, .raw (.lst [.int z]))) (h0 : 0 ≤ j) (h1 : j ≤ 16000000) (k : ∀ p H', (H0 p = none ∨ p ∈ S) → Led K H0 S H' ((p, .raw (.lst ((List.replicate j.toNat z).map V.int))) :: L) I → Q (.ref p) H') : rRep (.ref a) (.int j) H Q :=
  ⟨a, j, _, rfl, rfl, h.raw n e, by omega, by omega, by rw [sizeLine_eq]; simp only [List.length_cons, List.length_nil]; omega, fun p hp => by
    have q : (List.replicate j.toNat [V.int z]).flatten = (List.replicate j.toNat z).map V.int := by
      induction j.toNat with
      | zero => rfl
      | succ n ih => rw [List.replicate_succ, List.flatten_cons, ih, List.replicate_succ]; rfl
    rw [q]
    exact k p _ (h.fr hp) (h.alloc hp)⟩
theorem h_ixI (n : Nat) (h : Led K H0 S H L I) {a : Addr} {ns : List Int} (e : L[n]? = some (a, .raw (.lst (ns.map V.int)))) (h0 : 0 ≤ i) (h1 : i < ns.length) (k : Q (.int (ns.getD i.toNat 0)) H) : rIx K (.ref a) (.int i) H Q := h_ixL n h e (at_ints h0 h1) k
theorem h_setI {Q : Hp → Prop} (n : Nat) (h : Led K H0 S H L I) {a : Addr} {ns : List Int} (e : L[n]? = some (a, .raw (.lst (ns.map V.int)))) (hs : H0 a = none ∨ a ∈ S) (h0 : 0 ≤ i) (h1 : i < ns.length) (k : ∀ H', Led K H0 S H' (L.set n (a, .raw (.lst ((ns.set i.toNat j).map V.int)))) I → Q H') : rSetL (.ref a) (.int i) (.int j) H Q :=
  h_setL n h e hs (ixN_nn h0 (by rw [List.length_map]; exact h1)) (by rw [← List.map_set]; exact k)
theorem h_appI (n : Nat) (h : Led K H0 S H L I) {a : Addr} {ns : List Int} (e : L[n]? = some (a, .raw (.lst (ns.map V.int)))) (hs : H0 a = none ∨ a ∈ S) (z : ns.length < sizeLine) (k : ∀ H', Led K H0 S H' (L.set n (a, .raw (.lst ((ns ++ [i]).map V.int)))) I → Q .non H') : rAppend (.ref a) [.int i] H Q :=
  h_append n h e hs (by rw [List.length_map]; exact z) (by rw [map_snoc]; exact k)
theorem h_copyI (n : Nat) (h : Led K H0 S H L I) {a : Addr} {ns : List Int} (e : L[n]? = some (a, .raw (.lst (ns.map V.int)))) (k : ∀ p H', (H0 p = none ∨ p ∈ S) → Led K H0 S H' ((p, .raw (.lst (ns.map V.int))) :: L) I → Q (.ref p) H') : hListOf K [.ref a] H Q := h_listOf n h e k
theorem eqvAll_ints : ∀ xs ys : List Int, PyData.eqvAll (xs.map PyData.int) (ys.map PyData.int) = decide (xs = ys)
  | [], [] => by simp [PyData.eqvAll]
  | [], _ :: _ => by simp [PyData.eqvAll]
  | _ :: _, [] => by simp [PyData.eqvAll]
  | x :: xs, y :: ys => by
    simp only [List.map_cons, PyData.eqvAll, PyData.eqv, eqvAll_ints xs ys]
    by_cases h1 : x = y
    · subst h1
      simp
    · simp [h1]
theorem eqv_lints (xs ys : List Int) : PyData.eqv (.list (xs.map PyData.int)) (.list (ys.map PyData.int)) = decide (xs = ys) := by
  simp only [PyData.eqv, eqvAll_ints]
theorem Led.dpI (h : Led K H0 S H L I) (n : Nat) {a : Addr} {ns : List Int} (e : L[n]? = some (a, .raw (.lst (ns.map V.int)))) : Dp K H (.ref a) (.list (ns.map PyData.int)) := .lst (h.sqL n e) (Ims.of_ints ns).dp
theorem lay_ints (ns : List Int) : lay 1 (.list (ns.map PyData.int)) := lay_list fun d hd => by
  obtain ⟨z, _, rfl⟩ := List.mem_map.mp hd
  exact lay_int z
theorem h_neLI (n m : Nat) (h : Led K H0 S H L I) {a b : Addr} {xs ys : List Int} (e : L[n]? = some (a, .raw (.lst (xs.map V.int)))) (e2 : L[m]? = some (b, .raw (.lst (ys.map V.int)))) (k : Q (.bl (!decide (xs = ys))) H) : hNe K (.ref a) (.ref b) H Q :=
  h_neD (h.dpI n e) (h.dpI m e2) (lay_ints xs).shaped (lay_ints ys).shaped (by rw [eqv_lints]; exact k)
theorem h_eqLI (n m : Nat) (h : Led K H0 S H L I) {a b : Addr} {xs ys : List Int} (e : L[n]? = some (a, .raw (.lst (xs.map V.int)))) (e2 : L[m]? = some (b, .raw (.lst (ys.map V.int)))) (k : Q (.bl (decide (xs = ys))) H) : hEq K (.ref a) (.ref b) H Q :=
  h_eqD (h.dpI n e) (h.dpI m e2) (lay_ints xs).shaped (lay_ints ys).shaped (by rw [eqv_lints]; exact k)
/-- h_neLI with the same list: it is equal -/
theorem h_neSame (n m : Nat) (h : Led K H0 S H L I) {a b : Addr} {xs ys : List Int} (e : L[n]? = some (a, .raw (.lst (xs.map V.int)))) (e2 : L[m]? = some (b, .raw (.lst (ys.map V.int)))) (q : xs = ys) (k : Q (.bl false) H) : hNe K (.ref a) (.ref b) H Q :=
  h_neLI n m h e e2 (by rw [decide_eq_true q]; exact k)
/-! ### range with a step -/
def rg3 (xs : List V) (P : Int → Int → Nat → Prop) : Prop := ∃ (i j c : Int) (n : Nat), xs = [.int i, .int j, .int c] ∧ RgC i j c n ∧ P i c n
def jR3 (ta : TA) : TI := fun σ H R => ta σ H fun vs H1 => rg3 vs fun i c n => R (Itc i c n) H1
theorem i_rng3 {X : Cx} {tg : Expr} {ta : TA} {iter : Expr} (h : PI X tg iter (iRng3 ta)) : PI X tg iter (jR3 ta) := h
theorem a_jR3 {R : It → Hp → Prop} : jR3 A σ H R = A σ H fun vs H1 => rg3 vs fun i c n => R (Itc i c n) H1 := rfl
theorem h_rg3 {c : Int} {n : Nat} {P : Int → Int → Nat → Prop} (h : RgC i j c n) (k : P i c n) : rg3 [.int i, .int j, .int c] P := ⟨i, j, c, n, rfl, h, k⟩
theorem rgC_up {c : Int} {m : Nat} (hc : 0 < c) (hc2 : c < 1000000) (hm : m ≤ 1000000) (hj : j = c * m) : RgC 0 j c m := by
  subst hj
  have h0 : 0 ≤ c * (m : Int) := Int.mul_nonneg (by omega) (by omega)
  have h1 : c * (m : Int) ≤ 1000000 * 1000000 := Int.mul_le_mul (by omega) (by omega) (by omega) (by omega)
  have hs : Builtin.Range.rangeSize 0 (c * m) c = m := by
    unfold Builtin.Range.rangeSize
    rw [if_pos (by omega)]
    by_cases hm0 : m = 0
    · subst hm0
      simp
    · have hp : 0 < c * (m : Int) := Int.mul_pos hc (by omega)
      rw [if_pos hp]
      have e : (c * (m : Int) - 0 - 1) = (c - 1) + c * (m - 1) := by rw [Int.mul_sub]; omega
      rw [e, Int.add_mul_ediv_left _ _ (by omega), Int.ediv_eq_zero_of_lt (by omega) (by omega)]
      omega
  refine ⟨by omega, by omega, ?_, hs⟩
  unfold Builtin.Range.small
  rw [hs]
  simp only [Builtin.Range.rangeFitsLong, Bool.and_eq_true, Bool.or_eq_true, decide_eq_true_eq, beq_iff_eq]
  refine ⟨by omega, .inr ?_⟩
  rw [if_pos (show c > 0 by omega), decide_eq_true (by omega), decide_eq_true (by omega)]
  rfl
theorem lpC {lo c : Int} {n : Nat} {g : TG} {tb : TS} (Pv : Nat → L2.St → Hp → Prop) (h0 : Pv 0 σ H)
    (hs : ∀ i σ H, i < n → Pv i σ H → g (.int (lo + (i : Nat) * c)) σ H fun σ2 H2 => tb { D with nx := Pv (i + 1), ct := Pv (i + 1), bk := D.nx } σ2 H2) (hd : ∀ σ H, Pv n σ H → D.nx σ H) : Lp (Itc lo c n) g tb D σ H := for_rangeC Pv h0 hs hd
/-! ### a tuple of scalars, unpacked -/
def vOfs : List PyData → Option (List V)
  | [] => some []
  | d :: r => match Rs.vOf d, vOfs r with
    | some v, some vs => some (v :: vs)
    | _, _ => none
theorem Ims.vOfs : ∀ {vs us : List V} {ds : List PyData}, Ims K H vs ds → Rs.vOfs ds = some us → vs = us
  | _, us, _, .nil, e => by
    cases e
    rfl
  | v :: vs, us, d :: ds, .cons h t, e => by
    unfold Rs.vOfs at e
    split at e
    · rename_i v' vs' e1 e2
      cases e
      rw [h.vOf _ e1, Ims.vOfs t e2]
    · cases e
theorem h_gtupV {n : Nat} {a : Addr} {ds : List PyData} {us : List V} {gs : TGs} {Q : L2.St → Hp → Prop} (h : Im K H (.ref a) (.tuple ds)) (hn : ds.length = n) (hv : Rs.vOfs ds = some us) (k : gs us σ H Q) : gTup K n gs (.ref a) σ H Q :=
  h_gtup h hn fun xs hx => by rw [hx.vOfs hv]; exact k
/-! ### fewer entries -/
def pickL (f : List Nat) (L : List (Addr × Ent)) : List (Addr × Ent) := f.map fun n => L[n]?.getD (0, .dl [])
theorem Led.pick (h : Led K H0 S H L I) (f : List Nat) (hf : f.Nodup := by decide) (hb' : (f.all fun n => decide (n < L.length)) = true := by rfl) : Led K H0 S H (pickL f L) I := by
  have hb : ∀ n ∈ f, n < L.length := fun n hn => of_decide_eq_true (List.all_eq_true.mp hb' n hn)
  refine h.take _ I f (List.range I.length) hf (by unfold pickL; rw [List.length_map]) (fun i n e => ?_) (by rw [List.length_range]) (fun i n e => ?_)
  · have hn := hb n (List.mem_of_getElem? e)
    unfold pickL
    rw [List.getElem?_map, e]
    show some (L[n]?.getD (0, .dl [])) = L[n]?
    rw [List.getElem?_eq_getElem hn]
    rfl
  · obtain ⟨h1, h2⟩ := List.getElem?_eq_some_iff.mp e
    rw [List.getElem_range] at h2
    rw [h2]
theorem h_brNT {t u : TS} (h1 : u D σ H) : Br (!true) t u D σ H := iteF h1
theorem h_brNF {t u : TS} (h1 : t D σ H) : Br (!false) t u D σ H := iteT h1
/-! ### repr of data -/
def shw (n W : Nat) (d : PyData) : Prop := d.showable = true ∧ d.hasDict = false ∧ d.depth ≤ n ∧ d.leavesShort 13 = true ∧ d.weight ≤ W
theorem shw_int {z : Int} (h : z.natAbs < 10 ^ 12) : shw 0 41 (.int z) := by
  have hl : z = 0 ∨ z.natAbs.log2 < 40 := by
    by_cases h0 : z = 0
    · exact .inl h0
    · exact .inr ((Nat.log2_lt (by omega)).mpr (Nat.lt_trans h (by decide)))
  refine ⟨?_, by simp [PyData.hasDict], by simp [PyData.depth], ?_, ?_⟩
  · unfold PyData.showable
    refine decide_eq_true ?_
    rcases hl with rfl | hl
    · decide
    · omega
  · simp only [PyData.leavesShort, decide_eq_true_eq]
    exact PyData.shown_int_le h
  · unfold PyData.weight
    rcases hl with rfl | hl
    · simp
    · split <;> omega
theorem shw_bool (b : Bool) : shw 0 41 (.bool b) := ⟨by simp [PyData.showable], by simp [PyData.hasDict], by simp [PyData.depth], by simp [PyData.leavesShort], by simp [PyData.weight]⟩
theorem shw_none : shw 0 41 .none := ⟨by simp [PyData.showable], by simp [PyData.hasDict], by simp [PyData.depth], by simp [PyData.leavesShort], by simp [PyData.weight]⟩
theorem shw.up {n n' W W' : Nat} {d : PyData} (h : shw n W d) (h1 : n ≤ n') (h2 : W ≤ W') : shw n' W' d := ⟨h.1, h.2.1, Nat.le_trans h.2.2.1 h1, h.2.2.2.1, Nat.le_trans h.2.2.2.2 h2⟩
theorem shw_all {n W : Nat} : ∀ {ds : List PyData}, (∀ d ∈ ds, shw n W d) → PyData.showableAll ds = true ∧ PyData.hasDictAll ds = false ∧ PyData.depthAll ds ≤ n ∧ PyData.leavesShortAll 13 ds = true ∧ PyData.weightAll ds ≤ ds.length * (W + 1)
  | [], _ => ⟨by simp [PyData.showableAll], by simp [PyData.hasDictAll], by simp [PyData.depthAll], by simp [PyData.leavesShortAll], by simp [PyData.weightAll]⟩
  | d :: ds, h => by
    obtain ⟨h1, h2, h3, h4, h5⟩ := h d List.mem_cons_self
    obtain ⟨g1, g2, g3, g4, g5⟩ := shw_all (ds := ds) fun x hx => h x (List.mem_cons_of_mem _ hx)
    refine ⟨by simp [PyData.showableAll, h1, g1], by simp [PyData.hasDictAll, h2, g2], ?_, by simp [PyData.leavesShortAll, h4, g4], ?_⟩
    · simp only [PyData.depthAll]
      omega
    · simp only [PyData.weightAll, List.length_cons]
      rw [Nat.succ_mul]
      omega
theorem shw_list {n W : Nat} {ds : List PyData} (h : ∀ d ∈ ds, shw n W d) : shw (n + 1) (ds.length * (W + 1)) (.list ds) := by
  obtain ⟨g1, g2, g3, g4, g5⟩ := shw_all h
  exact ⟨by simp [PyData.showable, g1], by simp [PyData.hasDict, g2], by simp only [PyData.depth]; omega, by simp [PyData.leavesShort, g4], by simp only [PyData.weight]; exact g5⟩
theorem shw_tup {n W : Nat} {ds : List PyData} (h : ∀ d ∈ ds, shw n W d) : shw (n + 1) (ds.length * (W + 1)) (.tuple ds) := by
  obtain ⟨g1, g2, g3, g4, g5⟩ := shw_all h
  exact ⟨by simp [PyData.showable, g1], by simp [PyData.hasDict, g2], by simp only [PyData.depth]; omega, by simp [PyData.leavesShort, g4], by simp only [PyData.weight]; exact g5⟩
theorem h_repr {x : V} {d : PyData} {n W : Nat} (hd : Dp K H x d) (h : shw n W d) (k : Q (.str d.shown) H) (hn : n ≤ 60 := by decide) (hW : W ≤ 2 ^ 20 := by decide) : hRepr K [x] H Q :=
  ⟨x, d, rfl, hd, h.1, h.2.1, Nat.le_trans h.2.2.1 hn, PyData.shown_fits (by decide) (by decide) h.2.2.2.1 (Nat.le_trans h.2.2.2.2 hW), k⟩
end

/-! ### objects -/
/-- what a class must say of its fields -/
structure CF (K : PySem.W.Frag) (C : Addr) (ns : List Str) : Prop where
  cl : Cls K C
  na : ∀ f ∈ ns, NoAttr K C f
def fldK (K : PySem.W.Frag) (f : Str) (x : V) (H : Hp) (Q : VK) : Prop := ∃ a C dx fs v, x = .ref a ∧ H a = some (.ins C dx fs) ∧ Cls K C ∧ NoAttr K C f ∧ fs.lookup f = some v ∧ Q v H
def sfldK (K : PySem.W.Frag) (f : Str) (y x : V) (H2 : Hp) (Q : Hp → Prop) : Prop := ∃ a C dx fs, x = .ref a ∧ H2 a = some (.ins C dx fs) ∧ Cls K C ∧ NoAttr K C f ∧ fs.length < 1000 ∧ Q (upd H2 a (.ins C dx (putF f y fs)))
def faugK (K : PySem.W.Frag) (f : Str) (x : V) (H1 : Hp) (P : Addr → Addr → V → Prop) : Prop := ∃ a C dx fs v, x = .ref a ∧ H1 a = some (.ins C dx fs) ∧ Cls K C ∧ NoAttr K C f ∧ fs.lookup f = some v ∧ P a C v
def faug2 (a C : Addr) (f : Str) (z : V) (H3 : Hp) (Q : Hp → Prop) : Prop := ∃ dx' fs', H3 a = some (.ins C dx' fs') ∧ fs'.length < 1000 ∧ Q (upd H3 a (.ins C dx' (putF f z fs')))
def methK (C : Addr) (m : Str) (x : V) (H1 : Hp) (P : Prop) : Prop := ∃ a dx fs, x = .ref a ∧ H1 a = some (.ins C dx fs) ∧ fs.lookup m = none ∧ P
def makeK (C : Addr) (H1 : Hp) (P : V → Hp → Prop) : Prop := ∀ x dx, H1 x = none → H1 dx = none → dx ≠ x → P (.ref x) (upd (upd H1 dx (.own x)) x (.ins C dx []))
/-- a method's call within a try, or a def that raises -/
def tMethE (C : Addr) (m : Str) (sp : Sp) (E : L2.St → XK) (ta : TE) (t : TA) : TE := fun σ H Q => ta σ H fun x H1 => methK C m x H1 (t σ H1 fun vs H2 => sp (x :: vs) H2 Q (E σ))
section
variable {X : Cx}
theorem pe_methE {CX : CXT} {k : Nat} {f C : Addr} {fd : FuncData} {ps : List Str} {sp : Sp} {E : L2.St → XK} {m : Str} {pos apos : Pos} {e o : Expr} {es : List Expr} {ta : TE} {t : TA} {pl : Sem Bool} (he : PE X o ta) (c : Cls X.K C) (hm : Meth X.K C m f)
    (F : FnOk X.prog X.w X.K X.mg X.base CX k f fd ps sp) (hr : Room k X.A) (hb : Binds X.K fd ps []) (hx : ∀ σ, PassesAt CX X σ (E σ)) (ha : PA X (e :: es) t)
    (hst : starEach (e :: es) X.env = (false, eval e X.env) :: starEach es X.env := by rfl) (hpl : (backTo pos (starEach es X.env)).any (·.1) = false := by rfl)
    (ht : eval (.Call (.Attribute o m apos) (e :: es) [] pos) X.env = (do
      let ov ← eval o X.env
      standAt apos.atName
      let (f, first) ← holding [ov] (getMethod ov m pl)
      callWith pos f first (backTo pos (starEach (e :: es) X.env)) (backToKw pos (keywordEach [] X.env))) := by rfl) :
    PE X (.Call (.Attribute o m apos) (e :: es) [] pos) (tMethE C m sp E ta t) := by
  refine ⟨fun pins s σ H Q I h => ?_⟩
  refine PySem.W.methodCall_KW (pl := pl) (thn (he.run pins s σ H _ I h) fun u s1 ⟨x, H1, I1, rx, a, dx, fs, ex, ea, l, q⟩ => ?_) ht
  subst ex
  obtain rfl : u = Value.ref a := rx
  refine getmeth_ok I1 ea c hm l ?_
  refine PySem.W.callWith_K (first := [.ref a]) (h₀ := X.base) I.ok.mod.kin hm.kp (thn (ha.run pos pins s1 σ H1 _ I1 q) fun us s2 ⟨vs, H2, I2, r, q2⟩ => ⟨I2.kIn, ?_⟩) hst hpl
  exact run_fnS (us := .ref a :: us) (vs := .ref a :: vs) F hr hb (hx σ) I2 (.cons rfl r) q2
theorem pe_methE0 {CX : CXT} {k : Nat} {f C : Addr} {fd : FuncData} {ps : List Str} {sp : Sp} {E : L2.St → XK} {m : Str} {pos apos : Pos} {o : Expr} {ta : TE} {pl : Sem Bool} (he : PE X o ta) (c : Cls X.K C) (hm : Meth X.K C m f)
    (F : FnOk X.prog X.w X.K X.mg X.base CX k f fd ps sp) (hr : Room k X.A) (hb : Binds X.K fd ps []) (hx : ∀ σ, PassesAt CX X σ (E σ))
    (ht : eval (.Call (.Attribute o m apos) [] [] pos) X.env = (do
      let ov ← eval o X.env
      standAt apos.atName
      let (f, first) ← holding [ov] (getMethod ov m pl)
      callWith pos f first (backTo pos (starEach [] X.env)) (backToKw pos (keywordEach [] X.env))) := by rfl) :
    PE X (.Call (.Attribute o m apos) [] [] pos) (tMethE C m sp E ta tNil) := by
  refine ⟨fun pins s σ H Q I h => ?_⟩
  refine PySem.W.methodCall_KW (pl := pl) (thn (he.run pins s σ H _ I h) fun u s1 ⟨x, H1, I1, rx, a, dx, fs, ex, ea, l, q⟩ => ?_) ht
  subst ex
  obtain rfl : u = Value.ref a := rx
  refine getmeth_ok I1 ea c hm l ?_
  exact PySem.W.callWith_K0 (first := [.ref a]) I1.kIn hm.kp (run_fnS (us := [.ref a]) (vs := [.ref a]) F hr hb (hx σ) I1 (.cons rfl .nil) q)
theorem pe_callE0 {CX : CXT} {k : Nat} {f : Addr} {fd : FuncData} {ps : List Str} {sp : Sp} {E : L2.St → XK} {x : Str} {p pos : Pos} (F : FnOk X.prog X.w X.K X.mg X.base CX k f fd ps sp) (hr : Room k X.A) (hg : Gl X x) (hm : X.mg x = some (.ref f)) (hk : PySem.W.keepIn X.K (.ref f) = true) (hb : Binds X.K fd ps [])
    (hx : ∀ σ, PassesAt CX X σ (E σ)) (hdb : (x == ("__debug__" : Str)) = false := by decide) : PE X (.Call (.Name x p) [] [] pos) (tCallS sp E tNil) := by
  refine ⟨fun pins s σ H Q I h => ?_⟩
  refine wpAny_Call_Name_kw (ld_glob I hg hm ?_ hdb)
  exact PySem.W.callWith_K0 I.kIn hk (run_fnS (us := []) F hr hb (hx σ) I .nil h)
theorem in_addM : InOp X .Add mIAdd := fun pins s σ H x y v u Q I rx ry h => by
  cases x <;> cases y <;>
    first
      | exact h.elim
      | exact iop_add pins s σ H _ _ v u Q I rx ry ⟨_, _, rfl, rfl, h⟩
      | exact iop_add_str pins s σ H _ _ v u Q I rx ry ⟨_, _, rfl, rfl, h.1, h.2⟩
theorem in_subM : InOp X .Sub mSub := fun pins s σ H x y v u Q I rx ry h => iop_sub pins s σ H x y v u Q I rx ry (mI0_ok h)
end
section
variable {K : PySem.W.Frag} {σ : L2.St} {H H' H0 : Hp} {S : List Addr} {L : List (Addr × Ent)} {I : List (V × PyData)} {Q : VK} {D : Ends} {v x y z : V} {A : TA} {ta tv te : TE} {f m : Str} {C : Addr} {sp : Sp} {dvs : List V} {E : XK} {ES : L2.St → XK} {r : R2} {ns : List Str} {fs : List (Str × V)} {a dx : Addr}
theorem a_fld : tFld K ta f σ H Q = ta σ H fun x H1 => fldK K f x H1 Q := rfl
theorem a_sfld : sFld K ta tv f D σ H = tv σ H fun y H1 => ta σ H1 fun x H2 => sfldK K f y x H2 (D.nx σ) := rfl
theorem a_sfldaug : sFldAug K ta tv r f D σ H = ta σ H fun x H1 => faugK K f x H1 fun a C v => tv σ H1 fun y H2 => r v y H2 fun z H3 => faug2 a C f z H3 (D.nx σ) := rfl
theorem a_meth : tMeth C m sp dvs E ta A σ H Q = ta σ H fun x H1 => methK C m x H1 (A σ H1 fun vs H2 => sp (x :: (vs ++ dvs)) H2 Q E) := rfl
theorem a_methE : tMethE C m sp ES ta A σ H Q = ta σ H fun x H1 => methK C m x H1 (A σ H1 fun vs H2 => sp (x :: vs) H2 Q (ES σ)) := rfl
theorem a_make : tMake C sp dvs E A σ H Q = A σ H fun vs H1 => makeK C H1 fun x H2 => sp (x :: (vs ++ dvs)) H2 (fun v H3 => v = .non ∧ Q x H3) E := rfl
theorem h_fld (n : Nat) (h : Led K H0 S H L I) (e : L[n]? = some (a, .raw (.ins C dx fs))) (c : CF K C ns) (hf : f ∈ ns) (hl : fs.lookup f = some v) (k : Q v H) : fldK K f (.ref a) H Q := ⟨a, C, dx, fs, v, rfl, h.raw n e, c.cl, c.na f hf, hl, k⟩
theorem Led.setF (h : Led K H0 S H L I) (n : Nat) (e : L[n]? = some (a, .raw (.ins C dx fs))) (hs : H0 a = none ∨ a ∈ S) (fs' : List (Str × V)) : Led K H0 S (upd H a (.ins C dx fs')) (L.set n (a, .raw (.ins C dx fs'))) I :=
  h.wr n e (fun b o q hb => by rw [upd_ne (by simpa using hb)]; exact q) (h.raw n e) rfl upd_same hs
theorem h_sfld {Q : Hp → Prop} {fs' : List (Str × V)} (n : Nat) (h : Led K H0 S H L I) (e : L[n]? = some (a, .raw (.ins C dx fs))) (c : CF K C ns) (hf : f ∈ ns) (hs : H0 a = none ∨ a ∈ S) (hl : fs.length < 1000) (hp : putF f y fs = fs') (k : ∀ H', Led K H0 S H' (L.set n (a, .raw (.ins C dx fs'))) I → Q H') : sfldK K f y (.ref a) H Q :=
  ⟨a, C, dx, fs, rfl, h.raw n e, c.cl, c.na f hf, hl, by rw [hp]; exact k _ (h.setF n e hs fs')⟩
theorem h_faug {P : Addr → Addr → V → Prop} (n : Nat) (h : Led K H0 S H L I) (e : L[n]? = some (a, .raw (.ins C dx fs))) (c : CF K C ns) (hf : f ∈ ns) (hl : fs.lookup f = some v) (k : P a C v) : faugK K f (.ref a) H P := ⟨a, C, dx, fs, v, rfl, h.raw n e, c.cl, c.na f hf, hl, k⟩
theorem h_faug2 {Q : Hp → Prop} {fs' : List (Str × V)} (n : Nat) (h : Led K H0 S H L I) (e : L[n]? = some (a, .raw (.ins C dx fs))) (hs : H0 a = none ∨ a ∈ S) (hl : fs.length < 1000) (hp : putF f z fs = fs') (k : ∀ H', Led K H0 S H' (L.set n (a, .raw (.ins C dx fs'))) I → Q H') : faug2 a C f z H Q :=
  ⟨dx, fs, h.raw n e, hl, by rw [hp]; exact k _ (h.setF n e hs fs')⟩
theorem h_meth {P : Prop} (n : Nat) (h : Led K H0 S H L I) (e : L[n]? = some (a, .raw (.ins C dx fs))) (hl : fs.lookup m = none) (k : P) : methK C m (.ref a) H P := ⟨a, dx, fs, rfl, h.raw n e, hl, k⟩
theorem h_make {P : V → Hp → Prop} (h : Led K H0 S H L I) (k : ∀ x dx H', (H0 x = none ∨ x ∈ S) → Led K H0 S H' ((x, .raw (.ins C dx [])) :: L) I → P (.ref x) H') : makeK C H P := fun x dx h1 h2 h3 => by
  have g1 := h.alloc (o := .own x) h2
  have hx : upd H dx (.own x) x = none := by rw [upd_ne (Ne.symm h3)]; exact h1
  have g2 := g1.alloc (o := .ins C dx []) hx
  exact k x dx _ (h.fr h1) (g2.take _ I (0 :: (List.range L.length).map (· + 2)) (List.range I.length) (by
    refine List.nodup_cons.mpr ⟨fun m => ?_, ?_⟩
    · obtain ⟨i, _, hi⟩ := List.mem_map.mp m
      omega
    · exact (List.pairwise_map.mpr ((List.nodup_range (n := L.length)).imp fun h e => h (by omega)))) (by simp) (fun i n e => by
      cases i with
      | zero =>
        cases e
        rfl
      | succ i =>
        have e' : ((List.range L.length).map (· + 2))[i]? = some n := e
        rw [List.getElem?_map] at e'
        obtain ⟨j, hj, rfl⟩ := Option.map_eq_some_iff.mp e'
        obtain ⟨h4, h5⟩ := List.getElem?_eq_some_iff.mp hj
        rw [List.getElem_range] at h5
        subst h5
        rfl) (by simp) (fun i n e => by
      obtain ⟨h4, h5⟩ := List.getElem?_eq_some_iff.mp e
      rw [List.getElem_range] at h5
      rw [h5]))
/-! ### a callee's ledger -/
def entMut : Ent → Bool
  | .raw o => isMut o
  | .dl _ => true
def adr (L : List (Addr × Ent)) (g : List Nat) : List Addr := g.map fun n => (L[n]?.getD (0, .dl [])).1
theorem EntAt.noT {e : Ent} (h : EntAt K H a e) (m : entMut e = true) : NoT H [a] := by
  cases e with
  | raw o => exact NoT.one h m
  | dl ds =>
    obtain ⟨xs, h1, _⟩ := h
    exact NoT.one h1 rfl
/-- the callee's ledger at its entry: some of the entries -/
theorem Led.rebase (h : Led K H0 S H L I) (g : List Nat) (S1 : List Addr) (hg : g.Nodup := by decide) (hb : (g.all fun n => decide (n < L.length)) = true := by rfl) : Led K H S1 H (pickL g L) I := by
  have q := h.pick g hg hb
  exact ⟨q.nd, q.at_, q.im, KBs.refl⟩
/-- back from the callee: g the entries that it may have changed, g2 those that it had (g among them), f those that it left -/
theorem Led.back {L1 : List (Addr × Ent)} {I1 : List (V × PyData)} (h : Led K H0 S H L I) (f g g2 : List Nat) {S1 : List Addr} (c : Led K H S1 H' L1 I1) (hS : ∀ b ∈ S1, b ∈ adr L g) (hd : ∀ e ∈ L1, e.1 ∈ adr L g2 ∨ H e.1 = none) (hs : ∀ b ∈ adr L g, H0 b = none ∨ b ∈ S) (hfg : (f ++ g2).Nodup := by decide) (hgg : (g.all fun n => g2.contains n) = true := by rfl)
    (hb : ((f ++ g2).all fun n => decide (n < L.length)) = true := by rfl) (hm : (g.all fun n => entMut (L[n]?.getD (0, .dl [])).2) = true := by rfl) : Led K H0 S H' (L1 ++ pickL f L) (I1 ++ I) := by
  have inR : ∀ n ∈ f ++ g2, n < L.length := fun n hn => of_decide_eq_true (List.all_eq_true.mp hb n hn)
  have sub : ∀ n ∈ g, n ∈ g2 := fun n hn => List.contains_iff_mem.mp (List.all_eq_true.mp hgg n hn)
  have at' : ∀ n (hn : n < L.length), L[n]?.getD (0, .dl []) = L[n] := fun n hn => by rw [List.getElem?_eq_getElem hn]; rfl
  have noT : NoT H S1 := fun b hb0 => by
    have hb2 := hS b hb0
    obtain ⟨n, hn, e⟩ := List.mem_map.mp hb2
    have hl := inR n (List.mem_append_right _ (sub n hn))
    have q := List.all_eq_true.mp hm n hn
    rw [at' n hl] at e q
    have r := (h.at_ n L[n].1 L[n].2 (List.getElem?_eq_getElem hl)).noT q
    rw [e] at r
    exact r b (List.mem_singleton.mpr rfl)
  have apart : ∀ n ∈ f, (L[n]?.getD (0, .dl [])).1 ∉ adr L g2 := fun n hn m => by
    obtain ⟨j, hj, e⟩ := List.mem_map.mp m
    have h1 := inR n (List.mem_append_left _ hn)
    have h2 := inR j (List.mem_append_right _ hj)
    rw [at' n h1, at' j h2] at e
    refine h.ne j n (a := L[j].1) (b := L[n].1) (e := L[j].2) (u := L[n].2) (List.getElem?_eq_getElem h2) (List.getElem?_eq_getElem h1) (fun q => ?_) e
    subst q
    exact (List.nodup_append.mp hfg).2.2 j hn j hj rfl
  have p := h.pick f (List.nodup_append.mp hfg).1 (List.all_eq_true.mpr fun n hn => decide_eq_true (inR n (List.mem_append_left _ hn)))
  have mem : ∀ e ∈ pickL f L, e.1 ∉ adr L g2 ∧ ∃ o, H e.1 = some o := fun e he => by
    obtain ⟨n, hn, q⟩ := List.mem_map.mp he
    refine ⟨q ▸ apart n hn, ?_⟩
    obtain ⟨i, hi, r⟩ := List.getElem_of_mem he
    exact (p.at_ i e.1 e.2 (by rw [List.getElem?_eq_getElem hi, r])).some
  have sub2 : ∀ b ∈ adr L g, b ∈ adr L g2 := fun b hb0 => by
    obtain ⟨n, hn, e⟩ := List.mem_map.mp hb0
    exact List.mem_map.mpr ⟨n, sub n hn, e⟩
  refine ⟨?_, fun n b e q => ?_, fun n v d q => ?_, fun b o q hb2 => ?_⟩
  · rw [List.map_append]
    refine List.nodup_append.mpr ⟨c.nd, p.nd, fun b hb1 b' hb2 e => ?_⟩
    subst e
    obtain ⟨e1, he1, q1⟩ := List.mem_map.mp hb1
    obtain ⟨e2, he2, q2⟩ := List.mem_map.mp hb2
    obtain ⟨m1, o, m2⟩ := mem e2 he2
    rcases hd e1 he1 with w | w
    · rw [q1] at w
      rw [q2] at m1
      exact m1 w
    · rw [q1, ← q2, m2] at w
      cases w
  · by_cases hn : n < L1.length
    · rw [List.getElem?_append_left hn] at q
      exact c.at_ n b e q
    · rw [List.getElem?_append_right (by omega)] at q
      exact (p.at_ _ b e q).keep c.kp noT fun m => (mem _ (List.mem_of_getElem? q)).1 (sub2 _ (hS _ m))
  · by_cases hn : n < I1.length
    · rw [List.getElem?_append_left hn] at q
      exact c.im n v d q
    · rw [List.getElem?_append_right (by omega)] at q
      exact (h.im _ v d q).keep c.kp noT
  · refine c.kp b o (h.kp b o q hb2) fun m => ?_
    rcases hs b (hS b m) with w | w
    · rw [q] at w
      cases w
    · exact hb2 w
theorem Led.iL {I1 : List (V × PyData)} (h : Led K H0 S H L (I1 ++ I)) : Led K H0 S H L I1 := ⟨h.nd, h.at_, fun n v d e => h.im n v d (by rw [List.getElem?_append_left (List.getElem?_eq_some_iff.mp e).1]; exact e), h.kp⟩
theorem Led.iR {I1 : List (V × PyData)} (h : Led K H0 S H L (I1 ++ I)) : Led K H0 S H L I := ⟨h.nd, h.at_, fun n v d e => h.im (I1.length + n) v d (by rw [List.getElem?_append_right (by omega), Nat.add_sub_cancel_left]; exact e), h.kp⟩
/-- an if whose two ways tell the same -/
theorem h_brEv {b : Bool} {t u : TE} (v : V) (h1 : b = true → ∀ Q' : VK, Q' v H → t σ H Q') (h2 : b = false → ∀ Q' : VK, Q' v H → u σ H Q') (k : Q v H) : BrE b t u Q σ H := h_brEb (fun e => h1 e Q k) fun e => h2 e Q k
/-- .. something of one kind -/
theorem h_brEj {b : Bool} {t u : TE} (P : V → Hp → Prop) (h1 : b = true → ∀ Q' : VK, (∀ v H', P v H' → Q' v H') → t σ H Q') (h2 : b = false → ∀ Q' : VK, (∀ v H', P v H' → Q' v H') → u σ H Q') (k : ∀ v H', P v H' → Q v H') : BrE b t u Q σ H := h_brEb (fun e => h1 e Q k) fun e => h2 e Q k
theorem h_truL (n : Nat) {xs : List V} {QB : Bool → Hp → Prop} (h : Led K H0 S H L I) (e : L[n]? = some (a, .raw (.lst xs))) (k : QB (!xs.isEmpty) H) : truK K QB (.ref a) H := ⟨_, .inl ⟨xs, h.sqL n e, rfl⟩, k⟩
theorem lk_here {k : Str} {v : V} {r : List (Str × V)} : List.lookup k ((k, v) :: r) = some v := by
  have e : (k == k) = true := beq_self_eq_true k
  simp only [List.lookup, e]
theorem lk_past {k g : Str} {v : V} {r : List (Str × V)} (h : (k == g) = false) : List.lookup k ((g, v) :: r) = List.lookup k r := by
  simp only [List.lookup, h]
theorem put_here {f : Str} {v x : V} {r : List (Str × V)} : putF f v ((f, x) :: r) = (f, v) :: r := if_pos rfl
theorem put_past {f g : Str} {v x : V} {r r' : List (Str × V)} (h : ¬ g = f) (q : putF f v r = r') : putF f v ((g, x) :: r) = (g, x) :: r' := by
  rw [← q]
  exact if_neg h
end

/-! ### a list stored ahead of a place: xs[:c] = ys -/
section
variable {prog : Program} {w : World} {A : Around} {E : Value → Shared → Prop} {s : Shared}
theorem bnd_to {c n : Nat} (hc : c ≤ n) : sliceBounds none (some (c : Int)) none n = (0, (c : Int), 1) := by
  have q : ¬ ((c : Int) < 0) := by omega
  simp only [sliceBounds, Option.getD_none, q, if_false, show (1 : Int) > 0 by decide, if_true]
  congr 2
  omega
set_option maxRecDepth 100000 in
theorem set_to {p q sl : Addr} {xs ys : Array Value} {n m : Nat} {vu : Value} {c : Nat} {Q : Unit → Shared → Prop} (ep : s.heap.get? p = some { cls := .type "list", data := .seq xs n }) (eq : s.heap.get? q = some { cls := .type "list", data := .seq ys m }) (hpq : p ≠ q)
    (hs : s.heap.IsSliceOf sl .none vu .none) (hu : IsPart vu (some (c : Int))) (hc : c ≤ xs.size) (hz : xs.size + ys.size ≤ sizeLine)
    (k : Q () { s with heap := s.heap.update p (Obj.mapSeq fun zs => zs.extract 0 0 ++ ys ++ zs.extract c zs.size) }) : wpAny (model prog w) A (setItem (.ref p) (.ref sl) (.ref q)) Q E s := by
  have Lp := PySem.IsL.isList ep
  have Lq := PySem.IsL.isList eq
  have Hs := hs
  obtain ⟨so, s1, s2, s3⟩ := Hs
  have Ts : s.TypeIs (.ref sl) "slice" := ⟨so, s1, s2⟩
  have z1 : ((fun zs : Array Value => zs.extract 0 0 ++ ys ++ zs.extract c zs.size) xs).size ≤ sizeLine + 1 := by
    simp only [Array.size_append, Array.size_extract]; omega
  have z2 : Builtin.List.listSameRef (.ref p) (.ref q) = false := by unfold Builtin.List.listSameRef; exact beq_eq_false_iff_ne.mpr hpq
  have z3 : (max (0 : Int) (c : Int)).toNat = c := by omega
  unfold setItem
  (try with_reducible refine wpAny_holding ?_)
  (first | refine wpAny_bind (wpAny_pure ?_) | skip)
  refine wpAny_bind (wpAny_sequenceKey Lp.typeIs (by decide) (wpAny_bind (wpAny_callSpecial?_slot (name := Str.ofString "__setitem__") Lp.typeIs slot_list_setitem (wpAny_call_entry slot_list_setitem Lp.typeIs entry_list_setitem ?_ (args_list_setitem _ _ _)))))
  (show wpAny _ _ (Builtin.List.listSubscript? (.ref sl) >>= _) _ _ s; refine wpAny_bind ?_; unfold Builtin.List.listSubscript?; refine wpAny_bind (wpAny_specialOf Ts slice_no_index ?_))
  (simp only [Option.isNone_none, if_true]; refine wpAny_pure ?_)
  (show wpAny _ _ (typeOf (.ref sl) >>= _) _ _ s; refine wpAny_bind (wpAny_typeOf Ts ?_))
  (first | rw [if_neg (by decide)] | refine PySem.W.KFB.if_not (by decide) ?_)
  (rw [listSliceParts_eq]; refine wpAny_bind (wpAny_bind (wpAny_field s1 s3 (x := .none) rfl (wpAny_bind (wpAny_listPart .none ?_)))))
  rw [if_neg (show ¬ ((rawPart none == rawInt 0) = true) from Bool.false_ne_true)]
  refine wpAny_bind (wpAny_field s1 s3 (x := .none) rfl (wpAny_bind (wpAny_listPart .none (wpAny_bind (wpAny_field s1 s3 (x := vu) rfl (wpAny_bind (wpAny_listPart hu (wpAny_pure ?_))))))))
  (first | simp only [z2, Bool.false_eq_true, if_false] | refine PySem.W.KFB.if_not z2 ?_)
  (refine wpAny_bind (m := Builtin.List.listAllItems (.ref q) "must assign iterable to extended slice") ?_; unfold Builtin.List.listAllItems; refine wpAny_bind (wpAny_typeOf Lq.typeIs ?_))
  (first | refine PySem.W.KFB.if_so (by decide) ?_ | rw [if_pos (by decide)] | simp only [beq_self_eq_true, Bool.true_or, if_true])
  (unfold Builtin.List.listItems; refine wpAny_bind (wpAny_seqItems eq rfl (wpAny_pure (wpAny_bind (wpAny_bind (wpAny_seqItems ep rfl (wpAny_pure ?_)))))))
  refine wpAny_bind (wpAny_of_eq ((sliceIndices_raw none (some (c : Int)) none xs.size (by simp)).trans (congrArg (pure : Int × Int × Int → Sem (Int × Int × Int)) (bnd_to hc))) ?_)
  (show wpAny _ _ (if ((1 : Int) == 1) = true then _ else _) _ _ s; rw [if_pos (by decide)]; refine wpAny_bind (wpAny_rule ?_))
  (first | simp only [notLongL hz, Bool.false_eq_true, if_false] | refine PySem.W.KFB.if_not (notLongL hz) ?_)
  (first | refine wpAny_bind (wpAny_pure ?_) | skip)
  (show wpAny _ _ (updateSeq p (fun zs => zs.extract 0 ((0 : Int)).toNat ++ ys ++ zs.extract (max (0 : Int) (c : Int)).toNat zs.size) >>= _) _ _ s; rw [z3])
  refine wpAny_bind (wpAny_updateSeq (hz := Nat.le_trans (Nat.le_add_right _ _) hz) (_hz' := z1) ep rfl (wpAny_bind (wpAny_letGo ?_)))
  first | exact wpAny_bind (wpAny_pure (wpAny_pure ⟨.none, rfl, wpAny_pure k⟩)) | exact wpAny_pure ⟨.none, rfl, wpAny_pure k⟩
end
section
variable {X : Cx}
/-- xs[:c] = ys, ys another list -/
def slToK (x u v : V) (H2 : Hp) (Q : Hp → Prop) : Prop := ∃ (p q : Addr) (xs ys : List V) (c : Int), x = .ref p ∧ v = .ref q ∧ u = .int c ∧ H2 p = some (.lst xs) ∧ H2 q = some (.lst ys) ∧ p ≠ q ∧ 0 ≤ c ∧ c ≤ xs.length ∧ xs.length + ys.length ≤ sizeLine ∧ Q (upd H2 p (.lst (ys ++ xs.drop c.toNat)))
def gSlTo (to th : TE) : TG := fun v σ H Q => to σ H fun x H1 => th σ H1 fun u H2 => slToK x u v H2 (Q σ)
theorem a_gslTo {to th : TE} {v : V} {σ : L2.St} {H : Hp} {Q : L2.St → Hp → Prop} : gSlTo to th v σ H Q = to σ H fun x H1 => th σ H1 fun u H2 => slToK x u v H2 (Q σ) := rfl
theorem pg_slTo {o hi : Expr} {to th : TE} {p2 pos : Pos} (ho : PE X o to) (hh : PE X hi th)
    (ha : ∀ v, assign (.Subscript o (.Slice none (some hi) none p2) pos) X.env v = (do
      let ov ← holding [v] (eval o X.env)
      let iv ← holding [v, ov] (eval (.Slice none (some hi) none p2) X.env)
      standAt pos
      holding [v, ov, iv] (setItem ov iv v)
      release [iv, v, ov] []) := by intro _; rfl) : PG X (.Subscript o (.Slice none (some hi) none p2) pos) (gSlTo to th) := ⟨fun pins s σ H v u Q I r h => by
  rw [ha]
  refine wpAny_bind (wpAny_holding (thn (ho.run pins s σ H _ I h) fun ov s1 ⟨x, H1, I1, r1, q1⟩ => wpAny_bind (wpAny_holding (wpAny_Slice ?_))))
  rw [evalPart_none]
  refine wpAny_pure ?_
  rw [evalPart_some]
  refine thn (hh.run pins s1 σ H1 _ I1 q1) fun vu s2 ⟨y, H2, I2, r2, p, q, xs, ys, c, ex, ev, ey, hp, hq, hpq, c0, c1, hz, k⟩ => ?_
  subst ex
  subst ev
  subst ey
  obtain rfl : ov = Value.ref p := r1
  obtain rfl : u = Value.ref q := r
  obtain ⟨tk, rfl⟩ := r2
  obtain ⟨n, rfl⟩ := Int.eq_ofNat_of_zero_le c0
  refine wpAny_pure ?_
  have I3 : Inv X pins σ H2 { s2 with heap := s2.heap.push { cls := .type "slice", data := .fields #[.none, .int n tk, .none] } } := I2.kept (t' := s2.toks) fun b ob z => Heap.get?_push_of_some _ z
  obtain ⟨z, its, n1, rl, hl, e⟩ := I3.lstM hp
  obtain ⟨z2, its2, n2, rl2, hl2, e2⟩ := I3.lstM hq
  refine wpAny_bind (wpAny_standAt (wpAny_bind (wpAny_holding (set_to e e2 hpq (Heap.IsSliceOf.new ..) (.int _ _) (by rw [List.size_toArray]; omega) (by rw [List.size_toArray, List.size_toArray]; omega) (wpAny_release ⟨σ, _, I3.lset (its' := its2 ++ its.drop n) (t' := s2.toks) hp e ?_ (rl2.append (rl.drop _)) ?_, k⟩)))))
  · have q := splice_eq its its2 0 n
    rw [List.take_zero, List.nil_append] at q
    exact q
  · rw [List.length_append, List.length_drop]
    omega⟩
end
section
variable {K : PySem.W.Frag} {H0 H : Hp} {S : List Addr} {L : List (Addr × Ent)} {I : List (V × PyData)} {p q : Addr} {xs ys : List Int} {c : Int}
theorem h_slTo {Q : Hp → Prop} (n m : Nat) (h : Led K H0 S H L I) (e : L[n]? = some (p, .raw (.lst (xs.map V.int)))) (e2 : L[m]? = some (q, .raw (.lst (ys.map V.int)))) (hnm : n ≠ m) (hs : H0 p = none ∨ p ∈ S) (c0 : 0 ≤ c) (c1 : c ≤ xs.length) (hz : xs.length + ys.length ≤ sizeLine)
    (k : ∀ H', Led K H0 S H' (L.set n (p, .raw (.lst ((ys ++ xs.drop c.toNat).map V.int)))) I → Q H') : slToK (.ref p) (.int c) (.ref q) H Q :=
  ⟨p, q, _, _, c, rfl, rfl, rfl, h.raw n e, h.raw m e2, h.ne n m e e2 hnm, c0, by rw [List.length_map]; exact c1, by rw [List.length_map, List.length_map]; exact hz, by
    rw [← List.map_drop, ← List.map_append]
    exact k _ (h.wr n e (fun b o q hb => by rw [upd_ne (by simpa using hb)]; exact q) (h.raw n e) rfl upd_same hs)⟩
end

/-! ### the promises of the laws' own helpers -/
/-- where the classes stand -/
structure Ad where
  c_RecordError : Addr
  c_BadSchema : Addr
  c_BadField : Addr
  c_OutOfRange : Addr
  c_Full : Addr
  c_Leased : Addr
  c_BadImage : Addr
  c_BadJournal : Addr
  c_BadArgument : Addr
  c_Work : Addr
  c_Device : Addr
  c_Words : Addr
def A0 : Ad := ⟨0, 0, 0, 0, 0, 0, 0, 0, 0, 0, 0, 0⟩
def sp__law_cell (K : PySem.W.Frag) (A : Ad) : Sp := fun vs H Q _ => ∃ (a : Addr) (ns : List Int) (i : Int), vs = [.ref a, .int i] ∧ SqL K H a (ns.map V.int) ∧ 0 ≤ i ∧ ∀ z H', Same H H' → Q (.int z) H'
def sp__law_digits (K : PySem.W.Frag) (A : Ad) : Sp := fun vs H Q _ => ∃ (a : Addr) (ns : List Int) (f l : Int), vs = [.ref a, .int f, .int l] ∧ SqL K H a (ns.map V.int) ∧ 0 ≤ f ∧ f ≤ 1000 ∧ 0 ≤ l ∧ l ≤ 1000 ∧
  ∀ (p : Addr) (H' : Hp) (ds : List Int), Same H H' → H p = none → H' p = some (.lst (ds.map V.int)) → Q (.ref p) H'
def sp__law_draw (K : PySem.W.Frag) (A : Ad) : Sp := fun vs H Q _ => ∃ (b g : Addr) (ds : List Int) (i m : Int), vs = [.ref b, .int m] ∧ H b = some (.lst [.ref g, .int i]) ∧ H g = some (.lst (ds.map V.int)) ∧ b ≠ g ∧ 0 ≤ i ∧ i < 2 ^ 60 ∧ 0 < m ∧
  ∀ z H', 0 ≤ z → z < m → KBs H H' [b] → H' b = some (.lst [.ref g, .int (i + 1)]) → Q (.int z) H'
section
variable {K : PySem.W.Frag} {A : Ad} {H0 H : Hp} {S : List Addr} {L : List (Addr × Ent)} {I : List (V × PyData)} {Q : VK} {E : XK}
/-- a draw: the box stands at the n-th place of the ledger, its digits right behind -/
theorem h_draw (n : Nat) (h : Led K H0 S H L I) {b g : Addr} {ds : List Int} {i m : Int} (e : L[n]? = some (b, .raw (.lst [.ref g, .int i]))) (e2 : L[n + 1]? = some (g, .raw (.lst (ds.map V.int)))) (h0 : 0 ≤ i) (h1 : i < 2 ^ 60) (h2 : 0 < m)
    (hs : H0 b = none ∨ b ∈ S) (k : ∀ z H', 0 ≤ z → z < m → Led K H0 S H' (L.set n (b, .raw (.lst [.ref g, .int (i + 1)]))) I → Q (.int z) H') : sp__law_draw K A [.ref b, .int m] H Q E :=
  ⟨b, g, ds, i, m, rfl, h.raw n e, h.raw (n + 1) e2, h.ne n (n + 1) e e2 (by omega), h0, h1, h2, fun z H' z0 z1 kb he => k z H' z0 z1 (h.wr n e kb (h.raw n e) rfl he hs)⟩
end

local macro_rules | `(tactic| walk_at "im") => `(tactic| (first | apply Im.int | apply Im.str | apply Im.bl | apply Im.non | assumption | (apply h_imm 0; (case h => assumption); (case e => with_unfolding_all rfl)) | (apply h_imm 1; (case h => assumption); (case e => with_unfolding_all rfl)) | (apply h_imm 2; (case h => assumption); (case e => with_unfolding_all rfl)) | (apply h_imm 3; (case h => assumption); (case e => with_unfolding_all rfl)) | (apply h_imm 4; (case h => assumption); (case e => with_unfolding_all rfl)) | (apply h_imm 5; (case h => assumption); (case e => with_unfolding_all rfl))))
local macro_rules | `(tactic| walk_at "ims") => `(tactic| repeat (first | apply Ims.nil | (apply Ims.cons; (focus (first | apply Im.int | apply Im.str | apply Im.bl | apply Im.non | assumption | (apply h_imm 0; (case h => assumption); (case e => with_unfolding_all rfl)) | (apply h_imm 1; (case h => assumption); (case e => with_unfolding_all rfl)) | (apply h_imm 2; (case h => assumption); (case e => with_unfolding_all rfl)) | (apply h_imm 3; (case h => assumption); (case e => with_unfolding_all rfl)) | (apply h_imm 4; (case h => assumption); (case e => with_unfolding_all rfl)) | (apply h_imm 5; (case h => assumption); (case e => with_unfolding_all rfl)))))))
local macro_rules | `(tactic| walk_at "sz") => `(tactic| (rw [sizeLine_eq]; ((try simp only [List.length_append, List.length_cons, List.length_nil, List.length_map, List.length_replicate, List.length_set, List.length_take, List.length_drop]) <;> omega)))
local macro_rules | `(tactic| walk_at "fr") => `(tactic| (first | assumption | (apply Or.inl; assumption) | (apply Or.inr; simp)))
local macro_rules | `(tactic| walk_at "ds") => `(tactic| dsimp only [a_lk0, a_lk1, a_lkS, a_V, a_vl, a_c, a_op, a_un, a_test, a_toB, a_tr, a_trB, a_trI, a_trN, a_and, a_or, a_not, a_andV, a_orV, a_notV, a_ifE, a_nil, a_cons, a_lst, a_tup, a_call, a_CB, a_BM, a_BM0, a_sl, a_part, a_partI, a_noPart, a_seq, a_next, a_brk, a_cont, a_asg, a_name, a_drop, a_ret, a_retN, a_if, a_aug, a_for, a_lc, a_jR1, a_jR2, a_jL, a_jT, a_rg1, a_rg2, a_gsub, a_yes, a_addI, a_addS, a_addR, a_iaddI, a_iaddS, a_sub, a_mulI, a_mulR, a_fdiv, a_mod, a_pow, a_shl, a_shr, a_lt, a_le, a_gt, a_ge, a_neg, a_EqI, a_EqS, a_EqB, a_EqNN, a_EqIN, a_EqNI, a_EqSN, a_EqNS, a_EqRR, a_EqRN, a_EqNR, a_NeI, a_NeS, a_NeB, a_NeNN, a_NeIN, a_NeNI, a_NeSN, a_NeNS, a_NeRR, a_NeRN, a_NeNR, a_isNN, a_isNI, a_isNS, a_isNB, a_isNR, a_notNN, a_notNI, a_notNS, a_notNB, a_notNR, a_intI, a_intB, a_abs, a_gnil, a_gcons, a_callS, a_raise0, a_tryAs, a_tryOnly, a_rev, a_jR3, wipe, List.set, List.nil_append, List.cons_append])
local macro_rules | `(tactic| walk_at "gs") => `(tactic| repeat (first | dsimp only [a_lk0, a_lk1, a_lkS, a_V, a_vl, a_c, a_op, a_un, a_test, a_toB, a_tr, a_trB, a_trI, a_trN, a_and, a_or, a_not, a_andV, a_orV, a_notV, a_ifE, a_nil, a_cons, a_lst, a_tup, a_call, a_CB, a_BM, a_BM0, a_sl, a_part, a_partI, a_noPart, a_seq, a_next, a_brk, a_cont, a_asg, a_name, a_drop, a_ret, a_retN, a_if, a_aug, a_for, a_lc, a_jR1, a_jR2, a_jL, a_jT, a_rg1, a_rg2, a_gsub, a_yes, a_addI, a_addS, a_addR, a_iaddI, a_iaddS, a_sub, a_mulI, a_mulR, a_fdiv, a_mod, a_pow, a_shl, a_shr, a_lt, a_le, a_gt, a_ge, a_neg, a_EqI, a_EqS, a_EqB, a_EqNN, a_EqIN, a_EqNI, a_EqSN, a_EqNS, a_EqRR, a_EqRN, a_EqNR, a_NeI, a_NeS, a_NeB, a_NeNN, a_NeIN, a_NeNI, a_NeSN, a_NeNS, a_NeRR, a_NeRN, a_NeNR, a_isNN, a_isNI, a_isNS, a_isNB, a_isNR, a_notNN, a_notNI, a_notNS, a_notNB, a_notNR, a_intI, a_intB, a_abs, a_gnil, a_gcons, a_callS, a_raise0, a_tryAs, a_tryOnly, a_rev, a_jR3, wipe, List.set, List.nil_append, List.cons_append] | with_reducible (first
  | (apply h_draw 0; (case h => assumption); (case e => with_unfolding_all rfl); (case e2 => with_unfolding_all rfl); (case h0 => (first | decide | omega)); (case h1 => (first | decide | omega)); (case h2 => (first | decide | omega)); (case hs => (first | assumption | (apply Or.inl; assumption) | (apply Or.inr; simp))))
  | (apply h_draw 1; (case h => assumption); (case e => with_unfolding_all rfl); (case e2 => with_unfolding_all rfl); (case h0 => (first | decide | omega)); (case h1 => (first | decide | omega)); (case h2 => (first | decide | omega)); (case hs => (first | assumption | (apply Or.inl; assumption) | (apply Or.inr; simp))))
  | (apply h_draw 2; (case h => assumption); (case e => with_unfolding_all rfl); (case e2 => with_unfolding_all rfl); (case h0 => (first | decide | omega)); (case h1 => (first | decide | omega)); (case h2 => (first | decide | omega)); (case hs => (first | assumption | (apply Or.inl; assumption) | (apply Or.inr; simp))))
  | (apply h_draw 3; (case h => assumption); (case e => with_unfolding_all rfl); (case e2 => with_unfolding_all rfl); (case h0 => (first | decide | omega)); (case h1 => (first | decide | omega)); (case h2 => (first | decide | omega)); (case hs => (first | assumption | (apply Or.inl; assumption) | (apply Or.inr; simp))))
  | (apply h_ixL 0; (case h => assumption); (case e => with_unfolding_all rfl); (case hx => with_unfolding_all rfl))
  | (apply h_ixL 1; (case h => assumption); (case e => with_unfolding_all rfl); (case hx => with_unfolding_all rfl))
  | (apply h_ixL 2; (case h => assumption); (case e => with_unfolding_all rfl); (case hx => with_unfolding_all rfl))
  | (apply h_ixL 3; (case h => assumption); (case e => with_unfolding_all rfl); (case hx => with_unfolding_all rfl))
  | (apply h_ixL 4; (case h => assumption); (case e => with_unfolding_all rfl); (case hx => with_unfolding_all rfl))
  | (apply h_ixTv; (case hd => (first | apply Im.int | apply Im.str | apply Im.bl | apply Im.non | assumption | (apply h_imm 0; (case h => assumption); (case e => with_unfolding_all rfl)) | (apply h_imm 1; (case h => assumption); (case e => with_unfolding_all rfl)) | (apply h_imm 2; (case h => assumption); (case e => with_unfolding_all rfl)) | (apply h_imm 3; (case h => assumption); (case e => with_unfolding_all rfl)) | (apply h_imm 4; (case h => assumption); (case e => with_unfolding_all rfl)) | (apply h_imm 5; (case h => assumption); (case e => with_unfolding_all rfl)))); (case h0 => (first | decide | omega)); (case hx => with_unfolding_all rfl); (case hv => with_unfolding_all rfl))
  | (apply h_slPre; (case h => assumption); (case hd => (first | apply Im.int | apply Im.str | apply Im.bl | apply Im.non | assumption | (apply h_imm 0; (case h => assumption); (case e => with_unfolding_all rfl)) | (apply h_imm 1; (case h => assumption); (case e => with_unfolding_all rfl)) | (apply h_imm 2; (case h => assumption); (case e => with_unfolding_all rfl)) | (apply h_imm 3; (case h => assumption); (case e => with_unfolding_all rfl)) | (apply h_imm 4; (case h => assumption); (case e => with_unfolding_all rfl)) | (apply h_imm 5; (case h => assumption); (case e => with_unfolding_all rfl)))); (case h0 => (first | decide | omega)))
  | (apply h_gtupV; (case h => (first | apply Im.int | apply Im.str | apply Im.bl | apply Im.non | assumption | (apply h_imm 0; (case h => assumption); (case e => with_unfolding_all rfl)) | (apply h_imm 1; (case h => assumption); (case e => with_unfolding_all rfl)) | (apply h_imm 2; (case h => assumption); (case e => with_unfolding_all rfl)) | (apply h_imm 3; (case h => assumption); (case e => with_unfolding_all rfl)) | (apply h_imm 4; (case h => assumption); (case e => with_unfolding_all rfl)) | (apply h_imm 5; (case h => assumption); (case e => with_unfolding_all rfl)))); (case hn => with_unfolding_all rfl); (case hv => with_unfolding_all rfl))
  | (apply h_isiB)
  | (apply h_eqr)
  | (apply iteT)
  | (apply h_nT)
  | (apply h_nF)
  | (apply iteF)
  | (apply h_brT)
  | (apply h_brF)
  | (apply h_brET)
  | (apply h_brEF)
  | (apply h_brNT)
  | (apply h_brNF)
  | (apply h_append 0; (case h => assumption); (case e => with_unfolding_all rfl); (case hs => (first | assumption | (apply Or.inl; assumption) | (apply Or.inr; simp))); (case z => (rw [sizeLine_eq]; ((try simp only [List.length_append, List.length_cons, List.length_nil, List.length_map, List.length_replicate, List.length_set, List.length_take, List.length_drop]) <;> omega))))
  | (apply h_append 1; (case h => assumption); (case e => with_unfolding_all rfl); (case hs => (first | assumption | (apply Or.inl; assumption) | (apply Or.inr; simp))); (case z => (rw [sizeLine_eq]; ((try simp only [List.length_append, List.length_cons, List.length_nil, List.length_map, List.length_replicate, List.length_set, List.length_take, List.length_drop]) <;> omega))))
  | (apply h_append 2; (case h => assumption); (case e => with_unfolding_all rfl); (case hs => (first | assumption | (apply Or.inl; assumption) | (apply Or.inr; simp))); (case z => (rw [sizeLine_eq]; ((try simp only [List.length_append, List.length_cons, List.length_nil, List.length_map, List.length_replicate, List.length_set, List.length_take, List.length_drop]) <;> omega))))
  | (apply h_append 3; (case h => assumption); (case e => with_unfolding_all rfl); (case hs => (first | assumption | (apply Or.inl; assumption) | (apply Or.inr; simp))); (case z => (rw [sizeLine_eq]; ((try simp only [List.length_append, List.length_cons, List.length_nil, List.length_map, List.length_replicate, List.length_set, List.length_take, List.length_drop]) <;> omega))))
  | (apply h_append 4; (case h => assumption); (case e => with_unfolding_all rfl); (case hs => (first | assumption | (apply Or.inl; assumption) | (apply Or.inr; simp))); (case z => (rw [sizeLine_eq]; ((try simp only [List.length_append, List.length_cons, List.length_nil, List.length_map, List.length_replicate, List.length_set, List.length_take, List.length_drop]) <;> omega))))
  | (apply h_appendD 0; (case h => assumption); (case e => with_unfolding_all rfl); (case hd => (first | apply Im.int | apply Im.str | apply Im.bl | apply Im.non | assumption | (apply h_imm 0; (case h => assumption); (case e => with_unfolding_all rfl)) | (apply h_imm 1; (case h => assumption); (case e => with_unfolding_all rfl)) | (apply h_imm 2; (case h => assumption); (case e => with_unfolding_all rfl)) | (apply h_imm 3; (case h => assumption); (case e => with_unfolding_all rfl)) | (apply h_imm 4; (case h => assumption); (case e => with_unfolding_all rfl)) | (apply h_imm 5; (case h => assumption); (case e => with_unfolding_all rfl)))); (case hs => (first | assumption | (apply Or.inl; assumption) | (apply Or.inr; simp))); (case z => (rw [sizeLine_eq]; ((try simp only [List.length_append, List.length_cons, List.length_nil, List.length_map, List.length_replicate, List.length_set, List.length_take, List.length_drop]) <;> omega))))
  | (apply h_appendD 1; (case h => assumption); (case e => with_unfolding_all rfl); (case hd => (first | apply Im.int | apply Im.str | apply Im.bl | apply Im.non | assumption | (apply h_imm 0; (case h => assumption); (case e => with_unfolding_all rfl)) | (apply h_imm 1; (case h => assumption); (case e => with_unfolding_all rfl)) | (apply h_imm 2; (case h => assumption); (case e => with_unfolding_all rfl)) | (apply h_imm 3; (case h => assumption); (case e => with_unfolding_all rfl)) | (apply h_imm 4; (case h => assumption); (case e => with_unfolding_all rfl)) | (apply h_imm 5; (case h => assumption); (case e => with_unfolding_all rfl)))); (case hs => (first | assumption | (apply Or.inl; assumption) | (apply Or.inr; simp))); (case z => (rw [sizeLine_eq]; ((try simp only [List.length_append, List.length_cons, List.length_nil, List.length_map, List.length_replicate, List.length_set, List.length_take, List.length_drop]) <;> omega))))
  | (apply h_appendD 2; (case h => assumption); (case e => with_unfolding_all rfl); (case hd => (first | apply Im.int | apply Im.str | apply Im.bl | apply Im.non | assumption | (apply h_imm 0; (case h => assumption); (case e => with_unfolding_all rfl)) | (apply h_imm 1; (case h => assumption); (case e => with_unfolding_all rfl)) | (apply h_imm 2; (case h => assumption); (case e => with_unfolding_all rfl)) | (apply h_imm 3; (case h => assumption); (case e => with_unfolding_all rfl)) | (apply h_imm 4; (case h => assumption); (case e => with_unfolding_all rfl)) | (apply h_imm 5; (case h => assumption); (case e => with_unfolding_all rfl)))); (case hs => (first | assumption | (apply Or.inl; assumption) | (apply Or.inr; simp))); (case z => (rw [sizeLine_eq]; ((try simp only [List.length_append, List.length_cons, List.length_nil, List.length_map, List.length_replicate, List.length_set, List.length_take, List.length_drop]) <;> omega))))
  | (apply h_appendD 3; (case h => assumption); (case e => with_unfolding_all rfl); (case hd => (first | apply Im.int | apply Im.str | apply Im.bl | apply Im.non | assumption | (apply h_imm 0; (case h => assumption); (case e => with_unfolding_all rfl)) | (apply h_imm 1; (case h => assumption); (case e => with_unfolding_all rfl)) | (apply h_imm 2; (case h => assumption); (case e => with_unfolding_all rfl)) | (apply h_imm 3; (case h => assumption); (case e => with_unfolding_all rfl)) | (apply h_imm 4; (case h => assumption); (case e => with_unfolding_all rfl)) | (apply h_imm 5; (case h => assumption); (case e => with_unfolding_all rfl)))); (case hs => (first | assumption | (apply Or.inl; assumption) | (apply Or.inr; simp))); (case z => (rw [sizeLine_eq]; ((try simp only [List.length_append, List.length_cons, List.length_nil, List.length_map, List.length_replicate, List.length_set, List.length_take, List.length_drop]) <;> omega))))
  | (apply h_appendD 4; (case h => assumption); (case e => with_unfolding_all rfl); (case hd => (first | apply Im.int | apply Im.str | apply Im.bl | apply Im.non | assumption | (apply h_imm 0; (case h => assumption); (case e => with_unfolding_all rfl)) | (apply h_imm 1; (case h => assumption); (case e => with_unfolding_all rfl)) | (apply h_imm 2; (case h => assumption); (case e => with_unfolding_all rfl)) | (apply h_imm 3; (case h => assumption); (case e => with_unfolding_all rfl)) | (apply h_imm 4; (case h => assumption); (case e => with_unfolding_all rfl)) | (apply h_imm 5; (case h => assumption); (case e => with_unfolding_all rfl)))); (case hs => (first | assumption | (apply Or.inl; assumption) | (apply Or.inr; simp))); (case z => (rw [sizeLine_eq]; ((try simp only [List.length_append, List.length_cons, List.length_nil, List.length_map, List.length_replicate, List.length_set, List.length_take, List.length_drop]) <;> omega))))
  | (apply h_tyL 0; (case h => assumption); (case e => with_unfolding_all rfl))
  | (apply h_tyL 1; (case h => assumption); (case e => with_unfolding_all rfl))
  | (apply h_tyL 2; (case h => assumption); (case e => with_unfolding_all rfl))
  | (apply h_tyL 3; (case h => assumption); (case e => with_unfolding_all rfl))
  | (apply h_tyL 4; (case h => assumption); (case e => with_unfolding_all rfl))
  | (apply h_tyD 0; (case h => assumption); (case e => with_unfolding_all rfl))
  | (apply h_tyD 1; (case h => assumption); (case e => with_unfolding_all rfl))
  | (apply h_tyD 2; (case h => assumption); (case e => with_unfolding_all rfl))
  | (apply h_tyD 3; (case h => assumption); (case e => with_unfolding_all rfl))
  | (apply h_tyD 4; (case h => assumption); (case e => with_unfolding_all rfl))
  | (apply h_tyS)
  | (apply h_lenL 0; (case h => assumption); (case e => with_unfolding_all rfl))
  | (apply h_lenL 1; (case h => assumption); (case e => with_unfolding_all rfl))
  | (apply h_lenL 2; (case h => assumption); (case e => with_unfolding_all rfl))
  | (apply h_lenL 3; (case h => assumption); (case e => with_unfolding_all rfl))
  | (apply h_lenL 4; (case h => assumption); (case e => with_unfolding_all rfl))
  | (apply h_lenD 0; (case h => assumption); (case e => with_unfolding_all rfl))
  | (apply h_lenD 1; (case h => assumption); (case e => with_unfolding_all rfl))
  | (apply h_lenD 2; (case h => assumption); (case e => with_unfolding_all rfl))
  | (apply h_lenD 3; (case h => assumption); (case e => with_unfolding_all rfl))
  | (apply h_lenD 4; (case h => assumption); (case e => with_unfolding_all rfl))
  | (apply h_setL 0; (case h => assumption); (case e => with_unfolding_all rfl); (case hs => (first | assumption | (apply Or.inl; assumption) | (apply Or.inr; simp))); (case hi => with_unfolding_all rfl))
  | (apply h_setL 1; (case h => assumption); (case e => with_unfolding_all rfl); (case hs => (first | assumption | (apply Or.inl; assumption) | (apply Or.inr; simp))); (case hi => with_unfolding_all rfl))
  | (apply h_setL 2; (case h => assumption); (case e => with_unfolding_all rfl); (case hs => (first | assumption | (apply Or.inl; assumption) | (apply Or.inr; simp))); (case hi => with_unfolding_all rfl))
  | (apply h_setL 3; (case h => assumption); (case e => with_unfolding_all rfl); (case hs => (first | assumption | (apply Or.inl; assumption) | (apply Or.inr; simp))); (case hi => with_unfolding_all rfl))
  | (apply h_setL 4; (case h => assumption); (case e => with_unfolding_all rfl); (case hs => (first | assumption | (apply Or.inl; assumption) | (apply Or.inr; simp))); (case hi => with_unfolding_all rfl))
  | (apply h_isLn 0; (case h => assumption); (case e => with_unfolding_all rfl))
  | (apply h_isLn 1; (case h => assumption); (case e => with_unfolding_all rfl))
  | (apply h_isLn 2; (case h => assumption); (case e => with_unfolding_all rfl))
  | (apply h_isLn 3; (case h => assumption); (case e => with_unfolding_all rfl))
  | (apply h_isLn 4; (case h => assumption); (case e => with_unfolding_all rfl))
  | (apply h_isLd 0; (case h => assumption); (case e => with_unfolding_all rfl))
  | (apply h_isLd 1; (case h => assumption); (case e => with_unfolding_all rfl))
  | (apply h_isLd 2; (case h => assumption); (case e => with_unfolding_all rfl))
  | (apply h_isLd 3; (case h => assumption); (case e => with_unfolding_all rfl))
  | (apply h_isLd 4; (case h => assumption); (case e => with_unfolding_all rfl))
  | (apply h_isT; (case h => (first | apply Im.int | apply Im.str | apply Im.bl | apply Im.non | assumption | (apply h_imm 0; (case h => assumption); (case e => with_unfolding_all rfl)) | (apply h_imm 1; (case h => assumption); (case e => with_unfolding_all rfl)) | (apply h_imm 2; (case h => assumption); (case e => with_unfolding_all rfl)) | (apply h_imm 3; (case h => assumption); (case e => with_unfolding_all rfl)) | (apply h_imm 4; (case h => assumption); (case e => with_unfolding_all rfl)) | (apply h_imm 5; (case h => assumption); (case e => with_unfolding_all rfl)))))
  | (apply h_tupOf 0; (case h => assumption); (case e => with_unfolding_all rfl))
  | (apply h_tupOf 1; (case h => assumption); (case e => with_unfolding_all rfl))
  | (apply h_tupOf 2; (case h => assumption); (case e => with_unfolding_all rfl))
  | (apply h_tupOf 3; (case h => assumption); (case e => with_unfolding_all rfl))
  | (apply h_tupOf 4; (case h => assumption); (case e => with_unfolding_all rfl))
  | (apply h_listOf 0; (case h => assumption); (case e => with_unfolding_all rfl))
  | (apply h_listOf 1; (case h => assumption); (case e => with_unfolding_all rfl))
  | (apply h_listOf 2; (case h => assumption); (case e => with_unfolding_all rfl))
  | (apply h_listOf 3; (case h => assumption); (case e => with_unfolding_all rfl))
  | (apply h_listOf 4; (case h => assumption); (case e => with_unfolding_all rfl))
  | (apply h_lst; (case h => assumption); (case z => (rw [sizeLine_eq]; ((try simp only [List.length_append, List.length_cons, List.length_nil, List.length_map, List.length_replicate, List.length_set, List.length_take, List.length_drop]) <;> omega))))
  | (apply h_tup; (case h => assumption); (case z => (rw [sizeLine_eq]; ((try simp only [List.length_append, List.length_cons, List.length_nil, List.length_map, List.length_replicate, List.length_set, List.length_take, List.length_drop]) <;> omega))); (case hd => repeat (first | apply Ims.nil | (apply Ims.cons; (focus (first | apply Im.int | apply Im.str | apply Im.bl | apply Im.non | assumption | (apply h_imm 0; (case h => assumption); (case e => with_unfolding_all rfl)) | (apply h_imm 1; (case h => assumption); (case e => with_unfolding_all rfl)) | (apply h_imm 2; (case h => assumption); (case e => with_unfolding_all rfl)) | (apply h_imm 3; (case h => assumption); (case e => with_unfolding_all rfl)) | (apply h_imm 4; (case h => assumption); (case e => with_unfolding_all rfl)) | (apply h_imm 5; (case h => assumption); (case e => with_unfolding_all rfl))))))))
  | (apply And.intro; (case left => (first | decide | omega)))
  | (apply h_mr; (case h1 => (first | decide | omega)); (case h2 => (first | decide | omega)))
  | (apply h_ml; (case h1 => (first | decide | omega)); (case h2 => (first | decide | omega)))
  | (apply h_dv; (case h1 => (first | decide | omega)); (case h2 => (first | decide | omega)))
  | (apply h_pw; (case h1 => (first | decide | omega)); (case h2 => (first | decide | omega)); (case h3 => decide))
  | (apply And.intro; (case left => (rw [sizeLine_eq]; ((try simp only [List.length_append, List.length_cons, List.length_nil, List.length_map, List.length_replicate, List.length_set, List.length_take, List.length_drop]) <;> omega))))) | with_reducible intro))

def t__law_cell (K : PySem.W.Frag) (A : Ad) : TS :=
  (tSeq (mIf (mTest (tOp mLt (mV 1) (tCB (hLen K) (tCons (mV 0) tNil))))
    (tRet (tOp (rIx K) (mV 0) (mV 1)))
    tNext)
  (tRet (tC (.int 0))))
theorem rd__law_cell {K : PySem.W.Frag} {A : Ad} {vs : List V} {H : Hp} {Q : VK} {E : XK} (h : sp__law_cell K A vs H Q E) : t__law_cell K A { nx := fun _ H' => Q .non H', rt := Q } (start ["_law_script", "_law_k"] vs) H := by
  obtain ⟨a, ns, i, rfl, hS, hi, k⟩ := h
  show t__law_cell K A _ [some (.ref a), some (.int i)] H
  unfold t__law_cell
  walk_at "gs"
  refine h_lenQ hS ?_
  walk_at "gs"
  rw [List.length_map]
  refine h_br (fun hc => ?_) (fun hc => ?_)
  · walk_at "gs"
    exact h_ixQ hS (at_ints hi hc) (k _ _ (Same.refl H))
  · walk_at "gs"
    exact k _ _ (Same.refl H)
def t__law_draw (K : PySem.W.Frag) (A : Ad) : TS :=
  (tSeq (tAsg (tOp (rIx K) (mV 0) (tC (.int 1))) (gName 2))
  (tSeq (tAsg (tOp (mAdd K) (mV 2) (tC (.int 1))) (gSub (mV 0) (tC (.int 1)) rSetL))
  (tSeq (mIf (mTest (tOp mLt (mV 2) (tCB (hLen K) (tCons (tOp (rIx K) (mV 0) (tC (.int 0))) tNil))))
    (tRet (tOp mMod (tCB mInt (tCons (tOp (rIx K) (tOp (rIx K) (mV 0) (tC (.int 0))) (mV 2)) tNil)) (mV 1)))
    tNext)
  (tRet (tOp mMod (tCB mInt (tCons (tOp (mAdd K) (tOp mMul (mV 2) (tC (.int 7))) (tC (.int 3))) tNil)) (mV 1))))))
theorem rd__law_draw {K : PySem.W.Frag} {A : Ad} {vs : List V} {H : Hp} {Q : VK} {E : XK} (h : sp__law_draw K A vs H Q E) : t__law_draw K A { nx := fun _ H' => Q .non H', rt := Q } (start ["_law_box", "_law_many", "_law_at"] vs) H := by
  obtain ⟨b, g, ds, i, m, rfl, hb, hg, hbg, hi, hi2, hm, k⟩ := h
  show t__law_draw K A _ [some (.ref b), some (.int m), none] H
  unfold t__law_draw
  have hL : Led K H [b] H [(b, .raw (.lst [.ref g, .int i])), (g, .raw (.lst (ds.map V.int)))] [] := Led.mk2 hb hg hbg
  walk_at "gs"
  rename_i H1 h1
  rw [List.length_map]
  have fin : ∀ z, Q (.int (z % m)) H1 := fun z => k _ H1 (Int.emod_nonneg _ (by omega)) (Int.emod_lt_of_pos _ hm) h1.kp (h1.raw 0 rfl)
  refine h_br (fun hc => ?_) (fun hc => ?_)
  · walk_at "gs"
    refine h_ixL (n := 1) h1 rfl (at_ints hi hc) ?_
    walk_at "gs"
    exact fin _
  · walk_at "gs"
    exact fin _
def t__law_digits (K : PySem.W.Frag) (A : Ad) : TS :=
  (tSeq (tAsg (tLst tNil) (gName 3))
  (tSeq (tFor (jR2 (tCons (mV 1) (tCons (mV 2) tNil))) (gName 4)
    (tSeq (tAsg (tCall (sp__law_cell K A) [] E0 (tCons (mV 0) (tCons (mV 4) tNil))) (gName 5))
  (mCut (mIf (mTest (tOp mLt (mV 5) (tC (.int 0))))
    (tAsg (tOp mSub (tC (.int 1)) (tOp mMul (tC (.int 2)) (mV 5))) (gName 5))
    tNext)
  (mIf (mTest (tOp mGe (mV 5) (tOp mPow (tC (.int 10)) (tC (.int 18)))))
    (tFor (jR1 (tCons (tC (.int 60)) tNil)) (gName 6)
    (mIf (mTest (tOp mGt (mV 5) (tC (.int 0))))
    (tSeq (tDrop (tBM K "list" rAppend (mV 3) (tCons (tOp mMod (tCB mInt (tCons (mV 5) tNil)) (tC (.int 1000))) tNil)))
  (tAsg (tOp mFdiv (mV 5) (tC (.int 1000))) (gName 5)))
    tNext))
    (tSeq (tAsg (tOp mMod (tCB mInt (tCons (tOp (mAdd K) (tOp (mAdd K) (tOp mMul (mV 5) (tC (.int 48271))) (tOp mMul (mV 4) (tC (.int 69621)))) (tC (.int 11))) tNil)) (tC (.int 2147483647))) (gName 7))
  (tFor (jR1 (tCons (tC (.int 12)) tNil)) (gName 6)
    (tSeq (tAsg (tOp mMod (tCB mInt (tCons (tOp (mAdd K) (tOp (mAdd K) (tOp mMul (mV 7) (tC (.int 16807))) (tOp mMul (tC (.int 7)) (mV 6))) (tC (.int 1))) tNil)) (tC (.int 2147483647))) (gName 7))
  (tDrop (tBM K "list" rAppend (mV 3) (tCons (tOp mMod (tCB mInt (tCons (tOp mFdiv (mV 7) (tC (.int 997))) tNil)) (tC (.int 1000))) tNil))))))))))
  (tRet (mV 3))))
theorem rd__law_digits {K : PySem.W.Frag} {A : Ad} {vs : List V} {H : Hp} {Q : VK} {E : XK} (h : sp__law_digits K A vs H Q E) :
    t__law_digits K A { nx := fun _ H' => Q .non H', rt := Q } (start ["_law_script", "_law_first", "_law_last", "_law_digits_here", "_law_k", "_law_cell_here", "_law_turn", "_law_seed"] vs) H := by
  obtain ⟨a, ns, f, l, rfl, hS, hf, hf2, hl, hl2, k⟩ := h
  show t__law_digits K A _ [some (.ref a), some (.int f), some (.int l), none, none, none, none, none] H
  unfold t__law_digits
  have hL : Led K H [] H [] [] := Led.start
  walk_at "gs"
  rename_i p H1 np h1
  have np : H p = none := np.elim id fun z => nomatch z
  refine lpR (fun i σ H2 => ∃ (ds : List Int) (y4 y5 y6 y7 : Option V), σ = [some (.ref a), some (.int f), some (.int l), some (.ref p), y4, y5, y6, y7] ∧ ds.length ≤ 60 * i ∧ Led K H [] H2 [(p, .raw (.lst (ds.map V.int)))] [])
    ⟨[], none, none, none, none, rfl, Nat.le_refl _, h1⟩ ?_ ?_
  · rintro i σ H2 hi ⟨ds, y4, y5, y6, y7, rfl, hz, h2⟩
    walk_at "gs"
    refine ⟨a, ns, f + i, rfl, Same.seq (KBs.same h2.kp) hS, by omega, fun z H3 s3 => ?_⟩
    have h3 := h2.same s3
    walk_at "gs"
    refine h_cut (fun σ H4 => ∃ z : Int, σ = [some (.ref a), some (.int f), some (.int l), some (.ref p), some (.int (f + i)), some (.int z), y6, y7] ∧ Led K H [] H4 [(p, .raw (.lst (ds.map V.int)))] []) ?_ ?_
    · walk_at "gs"
      refine h_br (fun hc => ?_) (fun hc => ?_)
      · walk_at "gs"
        exact ⟨_, rfl, h3⟩
      · walk_at "gs"
        exact ⟨_, rfl, h3⟩
    · rintro σ H4 ⟨z, rfl, h4⟩
      walk_at "gs"
      refine h_br (fun hc => ?_) (fun hc => ?_)
      · walk_at "gs"
        refine lpR (fun j σ H5 => ∃ (ds : List Int) (z : Int) (y6 : Option V), σ = [some (.ref a), some (.int f), some (.int l), some (.ref p), some (.int (f + i)), some (.int z), y6, y7] ∧ ds.length ≤ 60 * i + j ∧ Led K H [] H5 [(p, .raw (.lst (ds.map V.int)))] [])
          ⟨ds, z, y6, rfl, hz, h4⟩ ?_ ?_
        · rintro j σ H5 hj ⟨ds, z, y6, rfl, hz, h5⟩
          walk_at "gs"
          refine h_br (fun hc => ?_) (fun hc => ?_)
          · walk_at "gs"
            rename_i H6 h6
            rw [map_snoc] at h6
            exact ⟨_, _, _, rfl, by rw [List.length_append]; show ds.length + 1 ≤ _; omega, h6⟩
          · walk_at "gs"
            exact ⟨ds, z, _, rfl, by omega, h5⟩
        · rintro σ H5 ⟨ds, z, y6, rfl, hz, h5⟩
          walk_at "gs"
          exact ⟨ds, _, _, _, _, rfl, by simp at hz; omega, h5⟩
      · walk_at "gs"
        refine lpR (fun j σ H5 => ∃ (ds : List Int) (w : Int) (y6 : Option V), σ = [some (.ref a), some (.int f), some (.int l), some (.ref p), some (.int (f + i)), some (.int z), y6, some (.int w)] ∧ (0 ≤ w ∧ w < 2147483647) ∧ ds.length ≤ 60 * i + j ∧ Led K H [] H5 [(p, .raw (.lst (ds.map V.int)))] [])
          ⟨ds, _, y6, rfl, ⟨Int.emod_nonneg _ (by decide), Int.emod_lt_of_pos _ (by decide)⟩, hz, h4⟩ ?_ ?_
        · rintro j σ H5 hj ⟨ds, w, y6, rfl, ⟨hw, hw2⟩, hz, h5⟩
          walk_at "gs"
          rename_i H6 h6
          rw [map_snoc] at h6
          exact ⟨_, _, _, rfl, ⟨Int.emod_nonneg _ (by decide), Int.emod_lt_of_pos _ (by decide)⟩, by rw [List.length_append]; show ds.length + 1 ≤ _; omega, h6⟩
        · rintro σ H5 ⟨ds, w, y6, rfl, hw, hz, h5⟩
          walk_at "gs"
          exact ⟨ds, _, _, _, _, rfl, by simp at hz; omega, h5⟩
  · rintro σ H2 ⟨ds, y4, y5, y6, y7, rfl, hz, h2⟩
    walk_at "gs"
    exact k p H2 ds (KBs.same h2.kp) np (h2.raw 0 rfl)

/-! ### digits to a base -/
def vn (b : Int) : List Int → Int
  | [] => 0
  | x :: r => x + b * vn b r
def dg (b : Int) : Nat → Int → List Int
  | 0, _ => []
  | n + 1, z => z % b :: dg b n (z / b)
theorem dg_len (b : Int) : ∀ (n : Nat) (z : Int), (dg b n z).length = n
  | 0, _ => rfl
  | n + 1, z => by rw [dg, List.length_cons, dg_len b n]
theorem dg_app {b : Int} (hb : 0 < b) : ∀ (n m : Nat) (z : Int), dg b (n + m) z = dg b n z ++ dg b m (z / b ^ n)
  | 0, m, z => by rw [Nat.zero_add, Int.pow_zero, Int.ediv_one]; rfl
  | n + 1, m, z => by
    rw [show n + 1 + m = (n + m) + 1 by omega, dg, dg_app hb n m, dg, Int.ediv_ediv_of_nonneg (by omega), Int.pow_succ, Int.mul_comm]
    rfl
theorem dg_snoc {b : Int} (hb : 0 < b) (n : Nat) (z : Int) : dg b (n + 1) z = dg b n z ++ [z / b ^ n % b] := dg_app hb n 1 z
theorem dg_mod {b : Int} (hb : 0 < b) : ∀ (n : Nat) (z : Int), dg b n (z % b ^ n) = dg b n z
  | 0, _ => rfl
  | n + 1, z => by
    have hp : 0 < b ^ n := Int.pow_pos hb
    have e : b ^ (n + 1) = b * b ^ n := by rw [Int.pow_succ, Int.mul_comm]
    rw [dg, dg, e]
    have h1 : z % (b * b ^ n) % b = z % b := Int.emod_emod_of_dvd z (Int.dvd_mul_right b (b ^ n))
    have h2 : z % (b * b ^ n) / b = z / b % b ^ n := by
      rw [Int.emod_def z (b * b ^ n), Int.emod_def (z / b) (b ^ n), Int.ediv_ediv_of_nonneg (by omega), Int.mul_assoc, Int.sub_eq_add_neg, Int.neg_mul_eq_mul_neg, Int.add_mul_ediv_left _ _ (by omega), Int.sub_eq_add_neg]
    rw [h1, h2, dg_mod hb n]
theorem dg_take {b : Int} (hb : 0 < b) (n k : Nat) (h : k ≤ n) (z : Int) : (dg b n z).take k = dg b k z := by
  obtain ⟨m, rfl⟩ := Nat.exists_eq_add_of_le h
  rw [dg_app hb, List.take_left' (dg_len b k z)]
theorem dg_drop {b : Int} (hb : 0 < b) (n k : Nat) (h : k ≤ n) (z : Int) : (dg b n z).drop k = dg b (n - k) (z / b ^ k) := by
  obtain ⟨m, rfl⟩ := Nat.exists_eq_add_of_le h
  rw [dg_app hb, List.drop_left' (dg_len b k z), Nat.add_sub_cancel_left]
theorem dg_rng {b : Int} (hb : 0 < b) : ∀ (n : Nat) (z x : Int), x ∈ dg b n z → 0 ≤ x ∧ x < b
  | 0, _, _, h => nomatch h
  | n + 1, z, x, h => by
    rcases List.mem_cons.mp h with h | h
    · rw [h]
      exact ⟨Int.emod_nonneg _ (by omega), Int.emod_lt_of_pos _ hb⟩
    · exact dg_rng hb n _ x h
theorem vn_app (b : Int) : ∀ l r : List Int, vn b (l ++ r) = vn b l + b ^ l.length * vn b r
  | [], r => by simp [vn]
  | x :: l, r => by
    rw [List.cons_append, vn, vn, vn_app b l r, List.length_cons, Int.pow_succ, Int.mul_add, Int.add_assoc, Int.mul_comm (b ^ l.length) b, Int.mul_assoc]
theorem vn_dg {b : Int} (hb : 0 < b) : ∀ (n : Nat) (z : Int), vn b (dg b n z) = z % b ^ n
  | 0, z => by rw [Int.pow_zero, Int.emod_one]; rfl
  | n + 1, z => by
    have hp : 0 < b ^ n := Int.pow_pos hb
    have e : b ^ (n + 1) = b * b ^ n := by rw [Int.pow_succ, Int.mul_comm]
    rw [dg, vn, vn_dg hb n, e]
    have h2 : z % (b * b ^ n) / b = z / b % b ^ n := by
      rw [Int.emod_def z (b * b ^ n), Int.emod_def (z / b) (b ^ n), Int.ediv_ediv_of_nonneg (by omega), Int.mul_assoc, Int.sub_eq_add_neg, Int.neg_mul_eq_mul_neg, Int.add_mul_ediv_left _ _ (by omega), Int.sub_eq_add_neg]
    have h1 : z % (b * b ^ n) % b = z % b := Int.emod_emod_of_dvd z (Int.dvd_mul_right b (b ^ n))
    have h3 := Int.emod_add_mul_ediv (z % (b * b ^ n)) b
    rw [h1, h2] at h3
    exact h3
theorem vn_rng {b : Int} (hb : 0 < b) : ∀ l : List Int, (∀ x ∈ l, 0 ≤ x ∧ x < b) → 0 ≤ vn b l ∧ vn b l < b ^ l.length
  | [], _ => ⟨Int.le_refl _, by rw [List.length_nil, Int.pow_zero]; exact (by decide : (0 : Int) < 1)⟩
  | x :: l, h => by
    obtain ⟨h1, h2⟩ := h x List.mem_cons_self
    obtain ⟨h3, h4⟩ := vn_rng hb l fun y hy => h y (List.mem_cons_of_mem _ hy)
    rw [vn, List.length_cons, Int.pow_succ]
    have h5 : 0 ≤ b * vn b l := Int.mul_nonneg (by omega) h3
    have h6 : b * vn b l ≤ b * (b ^ l.length - 1) := Int.mul_le_mul_of_nonneg_left (by omega) (by omega)
    rw [Int.mul_sub, Int.mul_one] at h6
    rw [Int.mul_comm (b ^ l.length) b]
    omega
theorem dg_vn {b : Int} (hb : 0 < b) : ∀ l : List Int, (∀ x ∈ l, 0 ≤ x ∧ x < b) → dg b l.length (vn b l) = l
  | [], _ => rfl
  | x :: l, h => by
    obtain ⟨h1, h2⟩ := h x List.mem_cons_self
    rw [List.length_cons, dg, vn, Int.add_mul_emod_self_left, Int.emod_eq_of_lt h1 h2, Int.add_mul_ediv_left _ _ (by omega), Int.ediv_eq_zero_of_lt h1 h2, Int.zero_add, dg_vn hb l fun y hy => h y (List.mem_cons_of_mem _ hy)]
/-- bits of bytes -/
theorem dg_bytes : ∀ (n : Nat) (z : Int), (dg 256 n z).flatMap (dg 2 8) = dg 2 (8 * n) z
  | 0, _ => rfl
  | n + 1, z => by
    rw [dg, List.flatMap_cons, dg_bytes n, show 8 * (n + 1) = 8 + 8 * n by omega, dg_app (by decide) 8 (8 * n) z]
    have e : z % 256 = z % 2 ^ 8 := rfl
    rw [e, dg_mod (by decide)]
    rfl
theorem bits_vn {l : List Int} (h : ∀ x ∈ l, 0 ≤ x ∧ x < 256) : l.flatMap (dg 2 8) = dg 2 (8 * l.length) (vn 256 l) := by
  have e := dg_vn (b := 256) (by decide) l h
  have q := dg_bytes l.length (vn 256 l)
  rw [e] at q
  exact q
theorem dg_get {b : Int} (hb : 0 < b) (n k : Nat) (h : k < n) (z : Int) : (dg b n z).getD k 0 = z / b ^ k % b := by
  have e := dg_drop hb n k (by omega) z
  rw [List.getD_eq_getElem?_getD]
  have q : (dg b n z)[k]? = ((dg b n z).drop k)[0]? := by rw [List.getElem?_drop, Nat.add_zero]
  rw [q, e, show n - k = (n - k - 1) + 1 by omega, dg]
  rfl
theorem mod_snoc (m : Nat) (y : Int) : y % 2 ^ (m + 1) = y % 2 ^ m + 2 ^ m * (y / 2 ^ m % 2) := by
  have h := vn_dg (b := 2) (by decide) (m + 1) y
  rw [dg_snoc (by decide), vn_app, vn_dg (by decide), dg_len] at h
  rw [← h]
  simp [vn]
/-! ### words -/
def Byt (ds : List Int) : Prop := ∀ b ∈ ds, 0 ≤ b ∧ b < 256
def ord (big : Bool) (l : List Int) : List Int := if big = true then l.reverse else l
def seg (ds : List Int) (o n : Nat) : List Int := (ds.take (o + n)).drop o
def wnum (ds : List Int) (o n : Nat) (big : Bool) : Int := vn 256 (ord big (seg ds o n))
def putSeg (ds : List Int) (o : Nat) (s : List Int) : List Int := ds.take o ++ s ++ ds.drop (o + s.length)
def put (ds : List Int) (o n : Nat) (big : Bool) (z : Int) : List Int := putSeg ds o (ord big (dg 256 n z))
def lo (w : Nat) (s : Bool) : Int := if s = true then 0 - 2 ^ (w - 1) else 0
def hi (w : Nat) (s : Bool) : Int := if s = true then 2 ^ (w - 1) - 1 else 2 ^ w - 1
def sgn (w : Nat) (s : Bool) (z : Int) : Int := if s = true ∧ 2 ^ (w - 1) ≤ z then z - 2 ^ w else z
def rslot (ds : List Int) (o n : Nat) (big : Bool) (f w : Nat) (s : Bool) : Int := sgn w s (wnum ds o n big / 2 ^ f % 2 ^ w)
def nslot (N : Int) (f w : Nat) (v : Int) : Int := N + (v % 2 ^ w - N / 2 ^ f % 2 ^ w) * 2 ^ f
def wslot (ds : List Int) (o n : Nat) (big : Bool) (f w : Nat) (v : Int) : List Int := put ds o n big (nslot (wnum ds o n big) f w v)
theorem ord_len (big : Bool) (l : List Int) : (ord big l).length = l.length := by
  unfold ord
  split
  · exact List.length_reverse
  · rfl
theorem ord_ord (big : Bool) (l : List Int) : ord big (ord big l) = l := by
  cases big
  · rfl
  · exact List.reverse_reverse l
theorem ord_mem {big : Bool} {l : List Int} {x : Int} : x ∈ ord big l ↔ x ∈ l := by
  cases big
  · exact Iff.rfl
  · exact List.mem_reverse
theorem seg_len {ds : List Int} {o n : Nat} (h : o + n ≤ ds.length) : (seg ds o n).length = n := by
  unfold seg
  rw [List.length_drop, List.length_take]
  omega
theorem seg_byt {ds : List Int} {o n : Nat} (h : Byt ds) : Byt (seg ds o n) := fun b hb => h b (List.mem_of_mem_take (List.mem_of_mem_drop hb))
theorem seg_get {ds : List Int} {o n i : Nat} (h : i < n) : (seg ds o n).getD i 0 = ds.getD (o + i) 0 := by
  unfold seg
  rw [List.getD_eq_getElem?_getD, List.getElem?_drop, List.getElem?_take_of_lt (by omega), List.getD_eq_getElem?_getD]
theorem ord_get {big : Bool} {l : List Int} {i : Nat} (h : i < l.length) : (ord big l).getD i 0 = l.getD (if big = true then l.length - 1 - i else i) 0 := by
  cases big
  · rfl
  · simp only [ord, if_true, List.getD_eq_getElem?_getD]
    rw [List.getElem?_reverse h]
theorem putSeg_seg {ds : List Int} {o n : Nat} (h : o + n ≤ ds.length) : putSeg ds o (seg ds o n) = ds := by
  unfold putSeg
  rw [seg_len h]
  have e : ds.take o ++ seg ds o n = ds.take (o + n) := by
    have q := List.take_append_drop o (ds.take (o + n))
    rw [List.take_take, Nat.min_eq_left (by omega)] at q
    exact q
  rw [e, List.take_append_drop]
theorem putSeg_len {ds s : List Int} {o : Nat} (h : o + s.length ≤ ds.length) : (putSeg ds o s).length = ds.length := by
  unfold putSeg
  rw [List.length_append, List.length_append, List.length_take, List.length_drop]
  omega
theorem putSeg_set {ds s : List Int} {o i : Nat} {z : Int} (h : o + s.length ≤ ds.length) (hi : i < s.length) : (putSeg ds o s).set (o + i) z = putSeg ds o (s.set i z) := by
  unfold putSeg
  have e : (ds.take o).length = o := by rw [List.length_take]; omega
  rw [List.append_assoc, List.set_append_right (o + i) z (by omega), e, Nat.add_sub_cancel_left, List.set_append_left i z hi, List.length_set, List.append_assoc]
theorem putSeg_putSeg {ds s t : List Int} {o : Nat} (h : o + s.length ≤ ds.length) (hst : s.length = t.length) : putSeg (putSeg ds o s) o t = putSeg ds o t := by
  unfold putSeg
  have e : (ds.take o).length = o := by rw [List.length_take]; omega
  have e2 : (ds.take o ++ s).length = o + t.length := by rw [List.length_append, e, hst]
  rw [List.append_assoc (ds.take o) s, List.take_left' e, ← List.append_assoc (ds.take o) s, List.drop_left' e2, hst]
theorem seg_putSeg {ds s : List Int} {o : Nat} (h : o + s.length ≤ ds.length) : seg (putSeg ds o s) o s.length = s := by
  unfold seg putSeg
  have e : (ds.take o).length = o := by rw [List.length_take]; omega
  have e2 : (ds.take o ++ s).length = o + s.length := by rw [List.length_append, e]
  rw [List.take_left' e2, List.drop_left' e]
theorem ord_set {big : Bool} {l : List Int} {i : Nat} {z : Int} (h : i < l.length) : (ord big l).set (if big = true then l.length - 1 - i else i) z = ord big (l.set i z) := by
  cases big
  · rfl
  · simp only [ord, if_true]
    refine List.ext_getElem? fun j => ?_
    by_cases hj : j < l.length
    · rw [List.getElem?_set, List.getElem?_reverse hj, List.getElem?_reverse (by rw [List.length_set]; exact hj), List.length_set, List.getElem?_set, List.length_reverse]
      by_cases e : l.length - 1 - i = j
      · rw [if_pos e, if_pos (by omega), if_pos (by omega), if_pos (by omega)]
      · rw [if_neg e, if_neg (by omega)]
    · rw [List.getElem?_eq_none (by rw [List.length_set, List.length_reverse]; omega), List.getElem?_eq_none (by rw [List.length_reverse, List.length_set]; omega)]
theorem byt_putSeg {ds s : List Int} {o : Nat} (h : Byt ds) (hs : Byt s) : Byt (putSeg ds o s) := fun b hb => by
  rcases List.mem_append.mp hb with hb | hb
  · rcases List.mem_append.mp hb with hb | hb
    · exact h b (List.mem_of_mem_take hb)
    · exact hs b hb
  · exact h b (List.mem_of_mem_drop hb)
theorem byt_ord {big : Bool} {s : List Int} (h : Byt s) : Byt (ord big s) := fun b hb => h b (ord_mem.mp hb)
theorem byt_dg (n : Nat) (z : Int) : Byt (dg 256 n z) := fun b hb => dg_rng (by decide) n z b hb
theorem put_len {ds : List Int} {o n : Nat} {big : Bool} {z : Int} (h : o + n ≤ ds.length) : (put ds o n big z).length = ds.length := putSeg_len (by rw [ord_len, dg_len]; exact h)
theorem byt_put {ds : List Int} {o n : Nat} {big : Bool} {z : Int} (h : Byt ds) : Byt (put ds o n big z) := byt_putSeg h (byt_ord (byt_dg n z))
theorem wnum_rng {ds : List Int} {o n : Nat} {big : Bool} (h : Byt ds) (hn : o + n ≤ ds.length) : 0 ≤ wnum ds o n big ∧ wnum ds o n big < 256 ^ n := by
  have q := vn_rng (b := 256) (by decide) (ord big (seg ds o n)) (byt_ord (seg_byt h))
  rw [ord_len, seg_len hn] at q
  exact q
theorem wnum_put {ds : List Int} {o n : Nat} {big : Bool} {z : Int} (hn : o + n ≤ ds.length) : wnum (put ds o n big z) o n big = z % 256 ^ n := by
  have l : (ord big (dg 256 n z)).length = n := by rw [ord_len, dg_len]
  have q := seg_putSeg (ds := ds) (s := ord big (dg 256 n z)) (o := o) (by rw [l]; exact hn)
  rw [l] at q
  unfold wnum put
  rw [q, ord_ord, vn_dg (by decide)]
theorem put_wnum {ds : List Int} {o n : Nat} {big : Bool} (h : Byt ds) (hn : o + n ≤ ds.length) : put ds o n big (wnum ds o n big) = ds := by
  have q := dg_vn (b := 256) (by decide) (ord big (seg ds o n)) (byt_ord (seg_byt h))
  rw [ord_len, seg_len hn] at q
  unfold put wnum
  rw [q, ord_ord, putSeg_seg hn]
/-- the bits of a changed slot -/
theorem nslot_bits (N : Int) (f w n : Nat) (v : Int) (h : f + w ≤ n) : dg 2 n (nslot N f w v) = (dg 2 n N).take f ++ dg 2 w v ++ (dg 2 n N).drop (f + w) := by
  have hf : (0 : Int) < 2 ^ f := Int.pow_pos (by decide)
  have hw : (0 : Int) < 2 ^ w := Int.pow_pos (by decide)
  obtain ⟨r, rfl⟩ := Nat.exists_eq_add_of_le h
  have e1 : nslot N f w v / 2 ^ f = N / 2 ^ f + (v % 2 ^ w - N / 2 ^ f % 2 ^ w) := by
    unfold nslot
    rw [Int.add_mul_ediv_right _ _ (by omega)]
  have e2 : nslot N f w v % 2 ^ f = N % 2 ^ f := by
    unfold nslot
    rw [Int.add_mul_emod_self_right]
  have e3 : N / 2 ^ f + (v % 2 ^ w - N / 2 ^ f % 2 ^ w) = v % 2 ^ w + 2 ^ w * (N / 2 ^ f / 2 ^ w) := by
    have q := Int.emod_add_mul_ediv (N / 2 ^ f) (2 ^ w)
    omega
  rw [dg_take (by decide) _ _ (by omega), dg_drop (by decide) _ _ h, Nat.add_sub_cancel_left, Nat.add_assoc, dg_app (by decide) f, dg_app (by decide) w, ← dg_mod (by decide) f (nslot N f w v), e2, dg_mod (by decide), e1, e3, ← dg_mod (by decide) w (_ + _), Int.add_mul_emod_self_left, Int.emod_emod_of_dvd _ (Int.dvd_refl _), dg_mod (by decide),
    Int.add_mul_ediv_left _ _ (by omega), Int.ediv_eq_zero_of_lt (Int.emod_nonneg _ (by omega)) (Int.emod_lt_of_pos _ hw), Int.zero_add, Int.ediv_ediv_of_nonneg (by omega), Int.pow_add, List.append_assoc]
theorem lo_hi {w : Nat} {s : Bool} (h : 0 < w) : lo w s ≤ hi w s ∧ hi w s - lo w s + 1 = 2 ^ w := by
  obtain ⟨k, rfl⟩ := Nat.exists_eq_add_of_le' h
  have hp : (0 : Int) < 2 ^ k := Int.pow_pos (by decide)
  unfold lo hi
  rw [Nat.add_sub_cancel, Int.pow_succ]
  cases s
  · simp only [Bool.false_eq_true, if_false]
    omega
  · simp only [if_true]
    omega
theorem p2_le {a b : Nat} (h : a ≤ b) : (2 : Int) ^ a ≤ 2 ^ b := by
  have := Nat.pow_le_pow_right (n := 2) (by decide) h
  exact_mod_cast this
theorem p2_pos (a : Nat) : (0 : Int) < 2 ^ a := Int.pow_pos (by decide)
/-! ### the promises of integers -/
def sp_power (K : PySem.W.Frag) (A : Ad) : Sp := fun vs H Q _ => ∃ n : Int, vs = [.int n] ∧ 0 ≤ n ∧ n ≤ 1000 ∧ Q (.int (2 ^ n.toNat)) H
def sp_bounds (K : PySem.W.Frag) (A : Ad) : Sp := fun vs H Q _ => ∃ (w : Int) (s : Bool), vs = [.int w, .bl s] ∧ 1 ≤ w ∧ w ≤ 63 ∧ ∀ p H', Same H H' → Im K H' (.ref p) (.tuple [.int (lo w.toNat s), .int (hi w.toNat s)]) → Q (.ref p) H'
def sp_word_number (K : PySem.W.Frag) (A : Ad) : Sp := fun vs H Q _ => ∃ (a : Addr) (ds : List Int) (o n : Int) (big : Bool), vs = [.ref a, .int o, .int n, .bl big] ∧ SqL K H a (ds.map V.int) ∧ 0 ≤ o ∧ 0 ≤ n ∧ n ≤ 1000 ∧ o + n ≤ ds.length ∧ Q (.int (wnum ds o.toNat n.toNat big)) H
def sp_put_word_number (K : PySem.W.Frag) (A : Ad) : Sp := fun vs H Q _ => ∃ (a : Addr) (ds : List Int) (o n : Int) (big : Bool) (z : Int), vs = [.ref a, .int o, .int n, .bl big, .int z] ∧ H a = some (.lst (ds.map V.int)) ∧ 0 ≤ o ∧ 0 ≤ n ∧ n ≤ 1000 ∧ o + n ≤ ds.length ∧
  ∀ H', KBs H H' [a] → H' a = some (.lst ((put ds o.toNat n.toNat big z).map V.int)) → Q .non H'
def sp_read_slot (K : PySem.W.Frag) (A : Ad) : Sp := fun vs H Q _ => ∃ (a : Addr) (ds : List Int) (o n : Int) (big : Bool) (f w : Int) (s : Bool), vs = [.ref a, .int o, .int n, .bl big, .int f, .int w, .bl s] ∧ SqL K H a (ds.map V.int) ∧ 0 ≤ o ∧ 0 ≤ n ∧ n ≤ 1000 ∧ o + n ≤ ds.length ∧ 0 ≤ f ∧ f ≤ 63 ∧ 1 ≤ w ∧ w ≤ 63 ∧
  Q (.int (rslot ds o.toNat n.toNat big f.toNat w.toNat s)) H
def sp_write_slot (K : PySem.W.Frag) (A : Ad) : Sp := fun vs H Q E => ∃ (a : Addr) (ds : List Int) (o n : Int) (big : Bool) (f w : Int) (s : Bool) (v : Int), vs = [.ref a, .int o, .int n, .bl big, .int f, .int w, .bl s, .int v] ∧ H a = some (.lst (ds.map V.int)) ∧ 0 ≤ o ∧ 0 ≤ n ∧ n ≤ 1000 ∧ o + n ≤ ds.length ∧ 0 ≤ f ∧ f ≤ 63 ∧ 1 ≤ w ∧ w ≤ 63 ∧
  (v < lo w.toNat s ∨ hi w.toNat s < v → ∀ H', Same H H' → E (.ref A.c_OutOfRange) none H') ∧
  (lo w.toNat s ≤ v → v ≤ hi w.toNat s → ∀ H', KBs H H' [a] → H' a = some (.lst ((wslot ds o.toNat n.toNat big f.toNat w.toNat v).map V.int)) → Q .non H')
def sp_read_word (K : PySem.W.Frag) (A : Ad) : Sp := fun vs H Q _ => ∃ (a : Addr) (ds : List Int) (o n : Int), vs = [.ref a, .int o, .int n] ∧ SqL K H a (ds.map V.int) ∧ 0 ≤ o ∧ 0 ≤ n ∧ n ≤ 1000 ∧ o + n ≤ ds.length ∧ Q (.int (wnum ds o.toNat n.toNat false)) H
def sp_write_word (K : PySem.W.Frag) (A : Ad) : Sp := fun vs H Q _ => ∃ (a : Addr) (ds : List Int) (o n : Int) (z : Int), vs = [.ref a, .int o, .int n, .int z] ∧ H a = some (.lst (ds.map V.int)) ∧ 0 ≤ o ∧ 0 ≤ n ∧ n ≤ 1000 ∧ o + n ≤ ds.length ∧
  ∀ H', KBs H H' [a] → H' a = some (.lst ((put ds o.toNat n.toNat false z).map V.int)) → Q .non H'
section
variable {K : PySem.W.Frag} {A : Ad} {H0 H : Hp} {S : List Addr} {L : List (Addr × Ent)} {I : List (V × PyData)} {Q : VK} {E : XK} {a : Addr} {ds : List Int} {o n f w z v : Int} {big s : Bool}
theorem h_power {n : Int} (h0 : 0 ≤ n) (h1 : n ≤ 1000) (k : Q (.int (2 ^ n.toNat)) H) : sp_power K A [.int n] H Q E := ⟨n, rfl, h0, h1, k⟩
theorem h_bounds (h : Led K H0 S H L I) (h0 : 1 ≤ w) (h1 : w ≤ 63) (k : ∀ p H', Led K H0 S H' L ((.ref p, .tuple [.int (lo w.toNat s), .int (hi w.toNat s)]) :: I) → Q (.ref p) H') : sp_bounds K A [.int w, .bl s] H Q E :=
  ⟨w, s, rfl, h0, h1, fun p H' s i => k p H' ((h.same s).imNew i)⟩
theorem h_wnum (m : Nat) (h : Led K H0 S H L I) (e : L[m]? = some (a, .raw (.lst (ds.map V.int)))) (h0 : 0 ≤ o) (h1 : 0 ≤ n) (h2 : n ≤ 1000) (h3 : o + n ≤ ds.length) (k : Q (.int (wnum ds o.toNat n.toNat big)) H) : sp_word_number K A [.ref a, .int o, .int n, .bl big] H Q E :=
  ⟨a, ds, o, n, big, rfl, h.sqL m e, h0, h1, h2, h3, k⟩
theorem h_rdword (m : Nat) (h : Led K H0 S H L I) (e : L[m]? = some (a, .raw (.lst (ds.map V.int)))) (h0 : 0 ≤ o) (h1 : 0 ≤ n) (h2 : n ≤ 1000) (h3 : o + n ≤ ds.length) (k : Q (.int (wnum ds o.toNat n.toNat false)) H) : sp_read_word K A [.ref a, .int o, .int n] H Q E :=
  ⟨a, ds, o, n, rfl, h.sqL m e, h0, h1, h2, h3, k⟩
theorem h_rslot (m : Nat) (h : Led K H0 S H L I) (e : L[m]? = some (a, .raw (.lst (ds.map V.int)))) (h0 : 0 ≤ o) (h1 : 0 ≤ n) (h2 : n ≤ 1000) (h3 : o + n ≤ ds.length) (h4 : 0 ≤ f) (h5 : f ≤ 63) (h6 : 1 ≤ w) (h7 : w ≤ 63) (k : Q (.int (rslot ds o.toNat n.toNat big f.toNat w.toNat s)) H) : sp_read_slot K A [.ref a, .int o, .int n, .bl big, .int f, .int w, .bl s] H Q E :=
  ⟨a, ds, o, n, big, f, w, s, rfl, h.sqL m e, h0, h1, h2, h3, h4, h5, h6, h7, k⟩
theorem h_put (m : Nat) (h : Led K H0 S H L I) (e : L[m]? = some (a, .raw (.lst (ds.map V.int)))) (h0 : 0 ≤ o) (h1 : 0 ≤ n) (h2 : n ≤ 1000) (h3 : o + n ≤ ds.length) (hs : H0 a = none ∨ a ∈ S) (k : ∀ H', Led K H0 S H' (L.set m (a, .raw (.lst ((put ds o.toNat n.toNat big z).map V.int)))) I → Q .non H') : sp_put_word_number K A [.ref a, .int o, .int n, .bl big, .int z] H Q E :=
  ⟨a, ds, o, n, big, z, rfl, h.raw m e, h0, h1, h2, h3, fun H' kb he => k H' (h.wr m e kb (h.raw m e) rfl he hs)⟩
theorem h_wrword (m : Nat) (h : Led K H0 S H L I) (e : L[m]? = some (a, .raw (.lst (ds.map V.int)))) (h0 : 0 ≤ o) (h1 : 0 ≤ n) (h2 : n ≤ 1000) (h3 : o + n ≤ ds.length) (hs : H0 a = none ∨ a ∈ S) (k : ∀ H', Led K H0 S H' (L.set m (a, .raw (.lst ((put ds o.toNat n.toNat false z).map V.int)))) I → Q .non H') : sp_write_word K A [.ref a, .int o, .int n, .int z] H Q E :=
  ⟨a, ds, o, n, z, rfl, h.raw m e, h0, h1, h2, h3, fun H' kb he => k H' (h.wr m e kb (h.raw m e) rfl he hs)⟩
theorem h_wslot (m : Nat) (h : Led K H0 S H L I) (e : L[m]? = some (a, .raw (.lst (ds.map V.int)))) (h0 : 0 ≤ o) (h1 : 0 ≤ n) (h2 : n ≤ 1000) (h3 : o + n ≤ ds.length) (h4 : 0 ≤ f) (h5 : f ≤ 63) (h6 : 1 ≤ w) (h7 : w ≤ 63) (hs : H0 a = none ∨ a ∈ S)
    (kx : v < lo w.toNat s ∨ hi w.toNat s < v → ∀ H', Led K H0 S H' L I → E (.ref A.c_OutOfRange) none H')
    (k : lo w.toNat s ≤ v → v ≤ hi w.toNat s → ∀ H', Led K H0 S H' (L.set m (a, .raw (.lst ((wslot ds o.toNat n.toNat big f.toNat w.toNat v).map V.int)))) I → Q .non H') : sp_write_slot K A [.ref a, .int o, .int n, .bl big, .int f, .int w, .bl s, .int v] H Q E :=
  ⟨a, ds, o, n, big, f, w, s, v, rfl, h.raw m e, h0, h1, h2, h3, h4, h5, h6, h7, fun c H' sm => kx c H' (h.same sm), fun c1 c2 H' kb he => k c1 c2 H' (h.wr m e kb (h.raw m e) rfl he hs)⟩
end

local macro_rules | `(tactic| walk_at "im") => `(tactic| (first | apply Im.int | apply Im.str | apply Im.bl | apply Im.non | assumption | (apply h_imm 0; (case h => assumption); (case e => with_unfolding_all rfl)) | (apply h_imm 1; (case h => assumption); (case e => with_unfolding_all rfl)) | (apply h_imm 2; (case h => assumption); (case e => with_unfolding_all rfl)) | (apply h_imm 3; (case h => assumption); (case e => with_unfolding_all rfl)) | (apply h_imm 4; (case h => assumption); (case e => with_unfolding_all rfl)) | (apply h_imm 5; (case h => assumption); (case e => with_unfolding_all rfl))))
local macro_rules | `(tactic| walk_at "ims") => `(tactic| repeat (first | apply Ims.nil | (apply Ims.cons; (focus (first | apply Im.int | apply Im.str | apply Im.bl | apply Im.non | assumption | (apply h_imm 0; (case h => assumption); (case e => with_unfolding_all rfl)) | (apply h_imm 1; (case h => assumption); (case e => with_unfolding_all rfl)) | (apply h_imm 2; (case h => assumption); (case e => with_unfolding_all rfl)) | (apply h_imm 3; (case h => assumption); (case e => with_unfolding_all rfl)) | (apply h_imm 4; (case h => assumption); (case e => with_unfolding_all rfl)) | (apply h_imm 5; (case h => assumption); (case e => with_unfolding_all rfl)))))))
local macro_rules | `(tactic| walk_at "sz") => `(tactic| (rw [sizeLine_eq]; ((try simp only [List.length_append, List.length_cons, List.length_nil, List.length_map, List.length_replicate, List.length_set, List.length_take, List.length_drop]) <;> omega)))
local macro_rules | `(tactic| walk_at "fr") => `(tactic| (first | assumption | (apply Or.inl; assumption) | (apply Or.inr; simp)))
local macro_rules | `(tactic| walk_at "ds") => `(tactic| dsimp only [a_lk0, a_lk1, a_lkS, a_V, a_vl, a_c, a_op, a_un, a_test, a_toB, a_tr, a_trB, a_trI, a_trN, a_and, a_or, a_not, a_andV, a_orV, a_notV, a_ifE, a_nil, a_cons, a_lst, a_tup, a_call, a_CB, a_BM, a_BM0, a_sl, a_part, a_partI, a_noPart, a_seq, a_next, a_brk, a_cont, a_asg, a_name, a_drop, a_ret, a_retN, a_if, a_aug, a_for, a_lc, a_jR1, a_jR2, a_jL, a_jT, a_rg1, a_rg2, a_gsub, a_yes, a_addI, a_addS, a_addR, a_iaddI, a_iaddS, a_sub, a_mulI, a_mulR, a_fdiv, a_mod, a_pow, a_shl, a_shr, a_lt, a_le, a_gt, a_ge, a_neg, a_EqI, a_EqS, a_EqB, a_EqNN, a_EqIN, a_EqNI, a_EqSN, a_EqNS, a_EqRR, a_EqRN, a_EqNR, a_NeI, a_NeS, a_NeB, a_NeNN, a_NeIN, a_NeNI, a_NeSN, a_NeNS, a_NeRR, a_NeRN, a_NeNR, a_isNN, a_isNI, a_isNS, a_isNB, a_isNR, a_notNN, a_notNI, a_notNS, a_notNB, a_notNR, a_intI, a_intB, a_abs, a_gnil, a_gcons, a_callS, a_raise0, a_tryAs, a_tryOnly, a_rev, a_jR3, wipe, List.set, List.nil_append, List.cons_append])
local macro_rules | `(tactic| walk_at "gs") => `(tactic| repeat (first | dsimp only [a_lk0, a_lk1, a_lkS, a_V, a_vl, a_c, a_op, a_un, a_test, a_toB, a_tr, a_trB, a_trI, a_trN, a_and, a_or, a_not, a_andV, a_orV, a_notV, a_ifE, a_nil, a_cons, a_lst, a_tup, a_call, a_CB, a_BM, a_BM0, a_sl, a_part, a_partI, a_noPart, a_seq, a_next, a_brk, a_cont, a_asg, a_name, a_drop, a_ret, a_retN, a_if, a_aug, a_for, a_lc, a_jR1, a_jR2, a_jL, a_jT, a_rg1, a_rg2, a_gsub, a_yes, a_addI, a_addS, a_addR, a_iaddI, a_iaddS, a_sub, a_mulI, a_mulR, a_fdiv, a_mod, a_pow, a_shl, a_shr, a_lt, a_le, a_gt, a_ge, a_neg, a_EqI, a_EqS, a_EqB, a_EqNN, a_EqIN, a_EqNI, a_EqSN, a_EqNS, a_EqRR, a_EqRN, a_EqNR, a_NeI, a_NeS, a_NeB, a_NeNN, a_NeIN, a_NeNI, a_NeSN, a_NeNS, a_NeRR, a_NeRN, a_NeNR, a_isNN, a_isNI, a_isNS, a_isNB, a_isNR, a_notNN, a_notNI, a_notNS, a_notNB, a_notNR, a_intI, a_intB, a_abs, a_gnil, a_gcons, a_callS, a_raise0, a_tryAs, a_tryOnly, a_rev, a_jR3, wipe, List.set, List.nil_append, List.cons_append] | with_reducible (first
  | (apply h_draw 0; (case h => assumption); (case e => with_unfolding_all rfl); (case e2 => with_unfolding_all rfl); (case h0 => (first | decide | omega)); (case h1 => (first | decide | omega)); (case h2 => (first | decide | omega)); (case hs => (first | assumption | (apply Or.inl; assumption) | (apply Or.inr; simp))))
  | (apply h_draw 1; (case h => assumption); (case e => with_unfolding_all rfl); (case e2 => with_unfolding_all rfl); (case h0 => (first | decide | omega)); (case h1 => (first | decide | omega)); (case h2 => (first | decide | omega)); (case hs => (first | assumption | (apply Or.inl; assumption) | (apply Or.inr; simp))))
  | (apply h_draw 2; (case h => assumption); (case e => with_unfolding_all rfl); (case e2 => with_unfolding_all rfl); (case h0 => (first | decide | omega)); (case h1 => (first | decide | omega)); (case h2 => (first | decide | omega)); (case hs => (first | assumption | (apply Or.inl; assumption) | (apply Or.inr; simp))))
  | (apply h_draw 3; (case h => assumption); (case e => with_unfolding_all rfl); (case e2 => with_unfolding_all rfl); (case h0 => (first | decide | omega)); (case h1 => (first | decide | omega)); (case h2 => (first | decide | omega)); (case hs => (first | assumption | (apply Or.inl; assumption) | (apply Or.inr; simp))))
  | (apply h_ixL 0; (case h => assumption); (case e => with_unfolding_all rfl); (case hx => with_unfolding_all rfl))
  | (apply h_ixL 1; (case h => assumption); (case e => with_unfolding_all rfl); (case hx => with_unfolding_all rfl))
  | (apply h_ixL 2; (case h => assumption); (case e => with_unfolding_all rfl); (case hx => with_unfolding_all rfl))
  | (apply h_ixL 3; (case h => assumption); (case e => with_unfolding_all rfl); (case hx => with_unfolding_all rfl))
  | (apply h_ixL 4; (case h => assumption); (case e => with_unfolding_all rfl); (case hx => with_unfolding_all rfl))
  | (apply h_ixTv; (case hd => (first | apply Im.int | apply Im.str | apply Im.bl | apply Im.non | assumption | (apply h_imm 0; (case h => assumption); (case e => with_unfolding_all rfl)) | (apply h_imm 1; (case h => assumption); (case e => with_unfolding_all rfl)) | (apply h_imm 2; (case h => assumption); (case e => with_unfolding_all rfl)) | (apply h_imm 3; (case h => assumption); (case e => with_unfolding_all rfl)) | (apply h_imm 4; (case h => assumption); (case e => with_unfolding_all rfl)) | (apply h_imm 5; (case h => assumption); (case e => with_unfolding_all rfl)))); (case h0 => (first | decide | omega)); (case hx => with_unfolding_all rfl); (case hv => with_unfolding_all rfl))
  | (apply h_slPre; (case h => assumption); (case hd => (first | apply Im.int | apply Im.str | apply Im.bl | apply Im.non | assumption | (apply h_imm 0; (case h => assumption); (case e => with_unfolding_all rfl)) | (apply h_imm 1; (case h => assumption); (case e => with_unfolding_all rfl)) | (apply h_imm 2; (case h => assumption); (case e => with_unfolding_all rfl)) | (apply h_imm 3; (case h => assumption); (case e => with_unfolding_all rfl)) | (apply h_imm 4; (case h => assumption); (case e => with_unfolding_all rfl)) | (apply h_imm 5; (case h => assumption); (case e => with_unfolding_all rfl)))); (case h0 => (first | decide | omega)))
  | (apply h_gtupV; (case h => (first | apply Im.int | apply Im.str | apply Im.bl | apply Im.non | assumption | (apply h_imm 0; (case h => assumption); (case e => with_unfolding_all rfl)) | (apply h_imm 1; (case h => assumption); (case e => with_unfolding_all rfl)) | (apply h_imm 2; (case h => assumption); (case e => with_unfolding_all rfl)) | (apply h_imm 3; (case h => assumption); (case e => with_unfolding_all rfl)) | (apply h_imm 4; (case h => assumption); (case e => with_unfolding_all rfl)) | (apply h_imm 5; (case h => assumption); (case e => with_unfolding_all rfl)))); (case hn => with_unfolding_all rfl); (case hv => with_unfolding_all rfl))
  | (apply h_isiB)
  | (apply h_eqr)
  | (apply iteT)
  | (apply h_nT)
  | (apply h_nF)
  | (apply iteF)
  | (apply h_brT)
  | (apply h_brF)
  | (apply h_brET)
  | (apply h_brEF)
  | (apply h_brNT)
  | (apply h_brNF)
  | (apply h_append 0; (case h => assumption); (case e => with_unfolding_all rfl); (case hs => (first | assumption | (apply Or.inl; assumption) | (apply Or.inr; simp))); (case z => (rw [sizeLine_eq]; ((try simp only [List.length_append, List.length_cons, List.length_nil, List.length_map, List.length_replicate, List.length_set, List.length_take, List.length_drop]) <;> omega))))
  | (apply h_append 1; (case h => assumption); (case e => with_unfolding_all rfl); (case hs => (first | assumption | (apply Or.inl; assumption) | (apply Or.inr; simp))); (case z => (rw [sizeLine_eq]; ((try simp only [List.length_append, List.length_cons, List.length_nil, List.length_map, List.length_replicate, List.length_set, List.length_take, List.length_drop]) <;> omega))))
  | (apply h_append 2; (case h => assumption); (case e => with_unfolding_all rfl); (case hs => (first | assumption | (apply Or.inl; assumption) | (apply Or.inr; simp))); (case z => (rw [sizeLine_eq]; ((try simp only [List.length_append, List.length_cons, List.length_nil, List.length_map, List.length_replicate, List.length_set, List.length_take, List.length_drop]) <;> omega))))
  | (apply h_append 3; (case h => assumption); (case e => with_unfolding_all rfl); (case hs => (first | assumption | (apply Or.inl; assumption) | (apply Or.inr; simp))); (case z => (rw [sizeLine_eq]; ((try simp only [List.length_append, List.length_cons, List.length_nil, List.length_map, List.length_replicate, List.length_set, List.length_take, List.length_drop]) <;> omega))))
  | (apply h_append 4; (case h => assumption); (case e => with_unfolding_all rfl); (case hs => (first | assumption | (apply Or.inl; assumption) | (apply Or.inr; simp))); (case z => (rw [sizeLine_eq]; ((try simp only [List.length_append, List.length_cons, List.length_nil, List.length_map, List.length_replicate, List.length_set, List.length_take, List.length_drop]) <;> omega))))
  | (apply h_appendD 0; (case h => assumption); (case e => with_unfolding_all rfl); (case hd => (first | apply Im.int | apply Im.str | apply Im.bl | apply Im.non | assumption | (apply h_imm 0; (case h => assumption); (case e => with_unfolding_all rfl)) | (apply h_imm 1; (case h => assumption); (case e => with_unfolding_all rfl)) | (apply h_imm 2; (case h => assumption); (case e => with_unfolding_all rfl)) | (apply h_imm 3; (case h => assumption); (case e => with_unfolding_all rfl)) | (apply h_imm 4; (case h => assumption); (case e => with_unfolding_all rfl)) | (apply h_imm 5; (case h => assumption); (case e => with_unfolding_all rfl)))); (case hs => (first | assumption | (apply Or.inl; assumption) | (apply Or.inr; simp))); (case z => (rw [sizeLine_eq]; ((try simp only [List.length_append, List.length_cons, List.length_nil, List.length_map, List.length_replicate, List.length_set, List.length_take, List.length_drop]) <;> omega))))
  | (apply h_appendD 1; (case h => assumption); (case e => with_unfolding_all rfl); (case hd => (first | apply Im.int | apply Im.str | apply Im.bl | apply Im.non | assumption | (apply h_imm 0; (case h => assumption); (case e => with_unfolding_all rfl)) | (apply h_imm 1; (case h => assumption); (case e => with_unfolding_all rfl)) | (apply h_imm 2; (case h => assumption); (case e => with_unfolding_all rfl)) | (apply h_imm 3; (case h => assumption); (case e => with_unfolding_all rfl)) | (apply h_imm 4; (case h => assumption); (case e => with_unfolding_all rfl)) | (apply h_imm 5; (case h => assumption); (case e => with_unfolding_all rfl)))); (case hs => (first | assumption | (apply Or.inl; assumption) | (apply Or.inr; simp))); (case z => (rw [sizeLine_eq]; ((try simp only [List.length_append, List.length_cons, List.length_nil, List.length_map, List.length_replicate, List.length_set, List.length_take, List.length_drop]) <;> omega))))
  | (apply h_appendD 2; (case h => assumption); (case e => with_unfolding_all rfl); (case hd => (first | apply Im.int | apply Im.str | apply Im.bl | apply Im.non | assumption | (apply h_imm 0; (case h => assumption); (case e => with_unfolding_all rfl)) | (apply h_imm 1; (case h => assumption); (case e => with_unfolding_all rfl)) | (apply h_imm 2; (case h => assumption); (case e => with_unfolding_all rfl)) | (apply h_imm 3; (case h => assumption); (case e => with_unfolding_all rfl)) | (apply h_imm 4; (case h => assumption); (case e => with_unfolding_all rfl)) | (apply h_imm 5; (case h => assumption); (case e => with_unfolding_all rfl)))); (case hs => (first | assumption | (apply Or.inl; assumption) | (apply Or.inr; simp))); (case z => (rw [sizeLine_eq]; ((try simp only [List.length_append, List.length_cons, List.length_nil, List.length_map, List.length_replicate, List.length_set, List.length_take, List.length_drop]) <;> omega))))
  | (apply h_appendD 3; (case h => assumption); (case e => with_unfolding_all rfl); (case hd => (first | apply Im.int | apply Im.str | apply Im.bl | apply Im.non | assumption | (apply h_imm 0; (case h => assumption); (case e => with_unfolding_all rfl)) | (apply h_imm 1; (case h => assumption); (case e => with_unfolding_all rfl)) | (apply h_imm 2; (case h => assumption); (case e => with_unfolding_all rfl)) | (apply h_imm 3; (case h => assumption); (case e => with_unfolding_all rfl)) | (apply h_imm 4; (case h => assumption); (case e => with_unfolding_all rfl)) | (apply h_imm 5; (case h => assumption); (case e => with_unfolding_all rfl)))); (case hs => (first | assumption | (apply Or.inl; assumption) | (apply Or.inr; simp))); (case z => (rw [sizeLine_eq]; ((try simp only [List.length_append, List.length_cons, List.length_nil, List.length_map, List.length_replicate, List.length_set, List.length_take, List.length_drop]) <;> omega))))
  | (apply h_appendD 4; (case h => assumption); (case e => with_unfolding_all rfl); (case hd => (first | apply Im.int | apply Im.str | apply Im.bl | apply Im.non | assumption | (apply h_imm 0; (case h => assumption); (case e => with_unfolding_all rfl)) | (apply h_imm 1; (case h => assumption); (case e => with_unfolding_all rfl)) | (apply h_imm 2; (case h => assumption); (case e => with_unfolding_all rfl)) | (apply h_imm 3; (case h => assumption); (case e => with_unfolding_all rfl)) | (apply h_imm 4; (case h => assumption); (case e => with_unfolding_all rfl)) | (apply h_imm 5; (case h => assumption); (case e => with_unfolding_all rfl)))); (case hs => (first | assumption | (apply Or.inl; assumption) | (apply Or.inr; simp))); (case z => (rw [sizeLine_eq]; ((try simp only [List.length_append, List.length_cons, List.length_nil, List.length_map, List.length_replicate, List.length_set, List.length_take, List.length_drop]) <;> omega))))
  | (apply h_tyL 0; (case h => assumption); (case e => with_unfolding_all rfl))
  | (apply h_tyL 1; (case h => assumption); (case e => with_unfolding_all rfl))
  | (apply h_tyL 2; (case h => assumption); (case e => with_unfolding_all rfl))
  | (apply h_tyL 3; (case h => assumption); (case e => with_unfolding_all rfl))
  | (apply h_tyL 4; (case h => assumption); (case e => with_unfolding_all rfl))
  | (apply h_tyD 0; (case h => assumption); (case e => with_unfolding_all rfl))
  | (apply h_tyD 1; (case h => assumption); (case e => with_unfolding_all rfl))
  | (apply h_tyD 2; (case h => assumption); (case e => with_unfolding_all rfl))
  | (apply h_tyD 3; (case h => assumption); (case e => with_unfolding_all rfl))
  | (apply h_tyD 4; (case h => assumption); (case e => with_unfolding_all rfl))
  | (apply h_tyS)
  | (apply h_lenL 0; (case h => assumption); (case e => with_unfolding_all rfl))
  | (apply h_lenL 1; (case h => assumption); (case e => with_unfolding_all rfl))
  | (apply h_lenL 2; (case h => assumption); (case e => with_unfolding_all rfl))
  | (apply h_lenL 3; (case h => assumption); (case e => with_unfolding_all rfl))
  | (apply h_lenL 4; (case h => assumption); (case e => with_unfolding_all rfl))
  | (apply h_lenD 0; (case h => assumption); (case e => with_unfolding_all rfl))
  | (apply h_lenD 1; (case h => assumption); (case e => with_unfolding_all rfl))
  | (apply h_lenD 2; (case h => assumption); (case e => with_unfolding_all rfl))
  | (apply h_lenD 3; (case h => assumption); (case e => with_unfolding_all rfl))
  | (apply h_lenD 4; (case h => assumption); (case e => with_unfolding_all rfl))
  | (apply h_setL 0; (case h => assumption); (case e => with_unfolding_all rfl); (case hs => (first | assumption | (apply Or.inl; assumption) | (apply Or.inr; simp))); (case hi => with_unfolding_all rfl))
  | (apply h_setL 1; (case h => assumption); (case e => with_unfolding_all rfl); (case hs => (first | assumption | (apply Or.inl; assumption) | (apply Or.inr; simp))); (case hi => with_unfolding_all rfl))
  | (apply h_setL 2; (case h => assumption); (case e => with_unfolding_all rfl); (case hs => (first | assumption | (apply Or.inl; assumption) | (apply Or.inr; simp))); (case hi => with_unfolding_all rfl))
  | (apply h_setL 3; (case h => assumption); (case e => with_unfolding_all rfl); (case hs => (first | assumption | (apply Or.inl; assumption) | (apply Or.inr; simp))); (case hi => with_unfolding_all rfl))
  | (apply h_setL 4; (case h => assumption); (case e => with_unfolding_all rfl); (case hs => (first | assumption | (apply Or.inl; assumption) | (apply Or.inr; simp))); (case hi => with_unfolding_all rfl))
  | (apply h_isLn 0; (case h => assumption); (case e => with_unfolding_all rfl))
  | (apply h_isLn 1; (case h => assumption); (case e => with_unfolding_all rfl))
  | (apply h_isLn 2; (case h => assumption); (case e => with_unfolding_all rfl))
  | (apply h_isLn 3; (case h => assumption); (case e => with_unfolding_all rfl))
  | (apply h_isLn 4; (case h => assumption); (case e => with_unfolding_all rfl))
  | (apply h_isLd 0; (case h => assumption); (case e => with_unfolding_all rfl))
  | (apply h_isLd 1; (case h => assumption); (case e => with_unfolding_all rfl))
  | (apply h_isLd 2; (case h => assumption); (case e => with_unfolding_all rfl))
  | (apply h_isLd 3; (case h => assumption); (case e => with_unfolding_all rfl))
  | (apply h_isLd 4; (case h => assumption); (case e => with_unfolding_all rfl))
  | (apply h_isT; (case h => (first | apply Im.int | apply Im.str | apply Im.bl | apply Im.non | assumption | (apply h_imm 0; (case h => assumption); (case e => with_unfolding_all rfl)) | (apply h_imm 1; (case h => assumption); (case e => with_unfolding_all rfl)) | (apply h_imm 2; (case h => assumption); (case e => with_unfolding_all rfl)) | (apply h_imm 3; (case h => assumption); (case e => with_unfolding_all rfl)) | (apply h_imm 4; (case h => assumption); (case e => with_unfolding_all rfl)) | (apply h_imm 5; (case h => assumption); (case e => with_unfolding_all rfl)))))
  | (apply h_tupOf 0; (case h => assumption); (case e => with_unfolding_all rfl))
  | (apply h_tupOf 1; (case h => assumption); (case e => with_unfolding_all rfl))
  | (apply h_tupOf 2; (case h => assumption); (case e => with_unfolding_all rfl))
  | (apply h_tupOf 3; (case h => assumption); (case e => with_unfolding_all rfl))
  | (apply h_tupOf 4; (case h => assumption); (case e => with_unfolding_all rfl))
  | (apply h_listOf 0; (case h => assumption); (case e => with_unfolding_all rfl))
  | (apply h_listOf 1; (case h => assumption); (case e => with_unfolding_all rfl))
  | (apply h_listOf 2; (case h => assumption); (case e => with_unfolding_all rfl))
  | (apply h_listOf 3; (case h => assumption); (case e => with_unfolding_all rfl))
  | (apply h_listOf 4; (case h => assumption); (case e => with_unfolding_all rfl))
  | (apply h_lst; (case h => assumption); (case z => (rw [sizeLine_eq]; ((try simp only [List.length_append, List.length_cons, List.length_nil, List.length_map, List.length_replicate, List.length_set, List.length_take, List.length_drop]) <;> omega))))
  | (apply h_tup; (case h => assumption); (case z => (rw [sizeLine_eq]; ((try simp only [List.length_append, List.length_cons, List.length_nil, List.length_map, List.length_replicate, List.length_set, List.length_take, List.length_drop]) <;> omega))); (case hd => repeat (first | apply Ims.nil | (apply Ims.cons; (focus (first | apply Im.int | apply Im.str | apply Im.bl | apply Im.non | assumption | (apply h_imm 0; (case h => assumption); (case e => with_unfolding_all rfl)) | (apply h_imm 1; (case h => assumption); (case e => with_unfolding_all rfl)) | (apply h_imm 2; (case h => assumption); (case e => with_unfolding_all rfl)) | (apply h_imm 3; (case h => assumption); (case e => with_unfolding_all rfl)) | (apply h_imm 4; (case h => assumption); (case e => with_unfolding_all rfl)) | (apply h_imm 5; (case h => assumption); (case e => with_unfolding_all rfl))))))))
  | (apply And.intro; (case left => (first | decide | omega)))
  | (apply h_mr; (case h1 => (first | decide | omega)); (case h2 => (first | decide | omega)))
  | (apply h_ml; (case h1 => (first | decide | omega)); (case h2 => (first | decide | omega)))
  | (apply h_dv; (case h1 => (first | decide | omega)); (case h2 => (first | decide | omega)))
  | (apply h_pw; (case h1 => (first | decide | omega)); (case h2 => (first | decide | omega)); (case h3 => decide))
  | (apply And.intro; (case left => (rw [sizeLine_eq]; ((try simp only [List.length_append, List.length_cons, List.length_nil, List.length_map, List.length_replicate, List.length_set, List.length_take, List.length_drop]) <;> omega))))
  | (apply h_wnum 0; (case h => assumption); (case e => with_unfolding_all rfl); (case h0 => (first | decide | omega)); (case h1 => (first | decide | omega)); (case h2 => (first | decide | omega)); (case h3 => (first | decide | omega)))
  | (apply h_wnum 1; (case h => assumption); (case e => with_unfolding_all rfl); (case h0 => (first | decide | omega)); (case h1 => (first | decide | omega)); (case h2 => (first | decide | omega)); (case h3 => (first | decide | omega)))
  | (apply h_wnum 2; (case h => assumption); (case e => with_unfolding_all rfl); (case h0 => (first | decide | omega)); (case h1 => (first | decide | omega)); (case h2 => (first | decide | omega)); (case h3 => (first | decide | omega)))
  | (apply h_rdword 0; (case h => assumption); (case e => with_unfolding_all rfl); (case h0 => (first | decide | omega)); (case h1 => (first | decide | omega)); (case h2 => (first | decide | omega)); (case h3 => (first | decide | omega)))
  | (apply h_rdword 1; (case h => assumption); (case e => with_unfolding_all rfl); (case h0 => (first | decide | omega)); (case h1 => (first | decide | omega)); (case h2 => (first | decide | omega)); (case h3 => (first | decide | omega)))
  | (apply h_rdword 2; (case h => assumption); (case e => with_unfolding_all rfl); (case h0 => (first | decide | omega)); (case h1 => (first | decide | omega)); (case h2 => (first | decide | omega)); (case h3 => (first | decide | omega)))
  | (apply h_rslot 0; (case h => assumption); (case e => with_unfolding_all rfl); (case h0 => (first | decide | omega)); (case h1 => (first | decide | omega)); (case h2 => (first | decide | omega)); (case h3 => (first | decide | omega)); (case h4 => (first | decide | omega)); (case h5 => (first | decide | omega)); (case h6 => (first | decide | omega)); (case h7 => (first | decide | omega)))
  | (apply h_rslot 1; (case h => assumption); (case e => with_unfolding_all rfl); (case h0 => (first | decide | omega)); (case h1 => (first | decide | omega)); (case h2 => (first | decide | omega)); (case h3 => (first | decide | omega)); (case h4 => (first | decide | omega)); (case h5 => (first | decide | omega)); (case h6 => (first | decide | omega)); (case h7 => (first | decide | omega)))
  | (apply h_rslot 2; (case h => assumption); (case e => with_unfolding_all rfl); (case h0 => (first | decide | omega)); (case h1 => (first | decide | omega)); (case h2 => (first | decide | omega)); (case h3 => (first | decide | omega)); (case h4 => (first | decide | omega)); (case h5 => (first | decide | omega)); (case h6 => (first | decide | omega)); (case h7 => (first | decide | omega)))
  | (apply h_put 0; (case h => assumption); (case e => with_unfolding_all rfl); (case h0 => (first | decide | omega)); (case h1 => (first | decide | omega)); (case h2 => (first | decide | omega)); (case h3 => (first | decide | omega)); (case hs => (first | assumption | (apply Or.inl; assumption) | (apply Or.inr; simp))))
  | (apply h_put 1; (case h => assumption); (case e => with_unfolding_all rfl); (case h0 => (first | decide | omega)); (case h1 => (first | decide | omega)); (case h2 => (first | decide | omega)); (case h3 => (first | decide | omega)); (case hs => (first | assumption | (apply Or.inl; assumption) | (apply Or.inr; simp))))
  | (apply h_put 2; (case h => assumption); (case e => with_unfolding_all rfl); (case h0 => (first | decide | omega)); (case h1 => (first | decide | omega)); (case h2 => (first | decide | omega)); (case h3 => (first | decide | omega)); (case hs => (first | assumption | (apply Or.inl; assumption) | (apply Or.inr; simp))))
  | (apply h_wrword 0; (case h => assumption); (case e => with_unfolding_all rfl); (case h0 => (first | decide | omega)); (case h1 => (first | decide | omega)); (case h2 => (first | decide | omega)); (case h3 => (first | decide | omega)); (case hs => (first | assumption | (apply Or.inl; assumption) | (apply Or.inr; simp))))
  | (apply h_wrword 1; (case h => assumption); (case e => with_unfolding_all rfl); (case h0 => (first | decide | omega)); (case h1 => (first | decide | omega)); (case h2 => (first | decide | omega)); (case h3 => (first | decide | omega)); (case hs => (first | assumption | (apply Or.inl; assumption) | (apply Or.inr; simp))))
  | (apply h_wrword 2; (case h => assumption); (case e => with_unfolding_all rfl); (case h0 => (first | decide | omega)); (case h1 => (first | decide | omega)); (case h2 => (first | decide | omega)); (case h3 => (first | decide | omega)); (case hs => (first | assumption | (apply Or.inl; assumption) | (apply Or.inr; simp))))
  | (apply h_power; (case h0 => (first | decide | omega)); (case h1 => (first | decide | omega)))
  | (apply h_bounds; (case h => assumption); (case h0 => (first | decide | omega)); (case h1 => (first | decide | omega)))) | with_reducible intro))

theorem wn_next {ds : List Int} {o n i : Nat} {big : Bool} (h : o + n ≤ ds.length) (hi : i < n) : vn 256 ((ord big (seg ds o n)).drop (n - (i + 1))) = vn 256 ((ord big (seg ds o n)).drop (n - i)) * 256 + ds.getD (o + if big = true then i else n - 1 - i) 0 := by
  have hl : (ord big (seg ds o n)).length = n := by rw [ord_len, seg_len h]
  have hj : n - (i + 1) < (ord big (seg ds o n)).length := by omega
  rw [List.drop_eq_getElem_cons hj, vn, show n - (i + 1) + 1 = n - i by omega]
  have e : (ord big (seg ds o n))[n - (i + 1)] = (ord big (seg ds o n)).getD (n - (i + 1)) 0 := by rw [List.getD_eq_getElem?_getD, List.getElem?_eq_getElem hj]; rfl
  rw [e, ord_get (by rw [seg_len h]; omega), seg_len h]
  cases big
  · simp only [Bool.false_eq_true, if_false]
    rw [seg_get (by omega), show n - (i + 1) = n - 1 - i by omega]
    omega
  · simp only [if_true]
    rw [show n - 1 - (n - (i + 1)) = i by omega, seg_get hi]
    omega
theorem pw_next {ds : List Int} {o n i : Nat} {big : Bool} {z : Int} (h : o + n ≤ ds.length) (hi : i < n) : (putSeg ds o (ord big (dg 256 i z ++ (ord big (seg ds o n)).drop i))).set (o + if big = true then n - 1 - i else i) (z / 256 ^ i % 256) = putSeg ds o (ord big (dg 256 (i + 1) z ++ (ord big (seg ds o n)).drop (i + 1))) := by
  have hl : (dg 256 i z ++ (ord big (seg ds o n)).drop i).length = n := by rw [List.length_append, dg_len, List.length_drop, ord_len, seg_len h]; omega
  rw [putSeg_set (by rw [ord_len, hl]; exact h) (by rw [ord_len, hl]; split <;> omega)]
  have e := ord_set (big := big) (l := dg 256 i z ++ (ord big (seg ds o n)).drop i) (i := i) (z := z / 256 ^ i % 256) (by omega)
  rw [hl] at e
  rw [e, List.set_append_right i _ (by rw [dg_len]; exact Nat.le_refl _), dg_len, Nat.sub_self, dg_snoc (by decide), List.append_assoc]
  have hj : i < (ord big (seg ds o n)).length := by rw [ord_len, seg_len h]; exact hi
  rw [List.drop_eq_getElem_cons hj, List.set_cons_zero]
  rfl
def t_power (K : PySem.W.Frag) (A : Ad) : TS :=
  (tSeq (tAsg (tC (.int 1)) (gName 1))
  (tSeq (tFor (jR1 (tCons (mV 0) tNil)) (gName 2)
    (tAsg (tOp mMul (mV 1) (tC (.int 2))) (gName 1)))
  (tRet (mV 1))))
theorem rd_power {K : PySem.W.Frag} {A : Ad} {vs : List V} {H : Hp} {Q : VK} {E : XK} (h : sp_power K A vs H Q E) : t_power K A { nx := fun _ H' => Q .non H', rt := Q } (start ["exponent", "number", "_"] vs) H := by
  obtain ⟨n, rfl, h0, h1, k⟩ := h
  show t_power K A _ [some (.int n), none, none] H
  unfold t_power
  walk_at "gs"
  refine lpR (fun i σ H1 => H1 = H ∧ ∃ y : Option V, σ = [some (.int n), some (.int (2 ^ i)), y]) ⟨rfl, none, rfl⟩ ?_ ?_
  · rintro i σ H1 hi ⟨rfl, y, rfl⟩
    walk_at "gs"
    exact ⟨_, by rw [Int.pow_succ]⟩
  · rintro σ H1 ⟨rfl, y, rfl⟩
    walk_at "gs"
    exact k
def t_bounds (K : PySem.W.Frag) (A : Ad) : TS :=
  (tSeq (mIf (mTr K (mV 1))
    (tRet (tTup (tCons (tOp mSub (tC (.int 0)) (tCall (sp_power K A) [] E0 (tCons (tOp mSub (mV 0) (tC (.int 1))) tNil))) (tCons (tOp mSub (tCall (sp_power K A) [] E0 (tCons (tOp mSub (mV 0) (tC (.int 1))) tNil)) (tC (.int 1))) tNil))))
    tNext)
  (tRet (tTup (tCons (tC (.int 0)) (tCons (tOp mSub (tCall (sp_power K A) [] E0 (tCons (mV 0) tNil)) (tC (.int 1))) tNil)))))
theorem rd_bounds {K : PySem.W.Frag} {A : Ad} {vs : List V} {H : Hp} {Q : VK} {E : XK} (h : sp_bounds K A vs H Q E) : t_bounds K A { nx := fun _ H' => Q .non H', rt := Q } (start ["width", "signed"] vs) H := by
  obtain ⟨w, s, rfl, h0, h1, k⟩ := h
  show t_bounds K A _ [some (.int w), some (.bl s)] H
  unfold t_bounds
  have hL : Led K H [] H [] [] := Led.start
  have e : (w - 1).toNat = w.toNat - 1 := by omega
  cases s
  · walk_at "gs"
    rename_i p H1 h2
    exact k p H1 (KBs.same h2.kp) (h2.im 0 _ _ rfl)
  · walk_at "gs"
    rename_i p H1 h2
    rw [e] at h2
    exact k p H1 (KBs.same h2.kp) (h2.im 0 _ _ rfl)
def t_word_number (K : PySem.W.Frag) (A : Ad) : TS :=
  (tSeq (tAsg (tC (.int 0)) (gName 4))
  (tSeq (tFor (jR1 (tCons (mV 2) tNil)) (gName 5)
    (tSeq (tAsg (tOp (rIx K) (mV 0) (tOp (mAdd K) (mV 1) (mIfE (mTr K (mV 3)) (mV 5) (tOp mSub (tOp mSub (mV 2) (tC (.int 1))) (mV 5))))) (gName 6))
  (tAsg (tOp (mAdd K) (tOp mMul (mV 4) (tC (.int 256))) (mV 6)) (gName 4))))
  (tRet (mV 4))))
theorem rd_word_number {K : PySem.W.Frag} {A : Ad} {vs : List V} {H : Hp} {Q : VK} {E : XK} (h : sp_word_number K A vs H Q E) : t_word_number K A { nx := fun _ H' => Q .non H', rt := Q } (start ["data", "offset", "size", "big", "number", "at", "byte"] vs) H := by
  obtain ⟨a, ds, o, n, big, rfl, hS, h0, h1, h2, h3, k⟩ := h
  show t_word_number K A _ [some (.ref a), some (.int o), some (.int n), some (.bl big), none, none, none] H
  unfold t_word_number
  have hz : o.toNat + n.toNat ≤ ds.length := by omega
  walk_at "gs"
  refine lpR (fun i σ H1 => H1 = H ∧ ∃ y5 y6 : Option V, σ = [some (.ref a), some (.int o), some (.int n), some (.bl big), some (.int (vn 256 ((ord big (seg ds o.toNat n.toNat)).drop (n.toNat - i)))), y5, y6])
    ⟨rfl, none, none, by rw [Nat.sub_zero, List.drop_eq_nil_of_le (by rw [ord_len, seg_len hz]; exact Nat.le_refl _)]; rfl⟩ ?_ ?_
  · rintro i σ H1 hi ⟨rfl, y5, y6, rfl⟩
    have nx := wn_next (big := big) hz hi
    walk_at "gs"
    cases big
    · walk_at "gs"
      refine h_ixQ hS (at_ints (by omega) (by omega)) ?_
      walk_at "gs"
      simp only [Bool.false_eq_true, if_false] at nx
      exact ⟨_, _, by rw [nx, show (o + (n - 1 - (0 + (i : Int)))).toNat = o.toNat + (n.toNat - 1 - i) by omega]⟩
    · walk_at "gs"
      refine h_ixQ hS (at_ints (by omega) (by omega)) ?_
      walk_at "gs"
      simp only [if_true] at nx
      exact ⟨_, _, by rw [nx, show (o + (0 + (i : Int))).toNat = o.toNat + i by omega]⟩
  · rintro σ H1 ⟨rfl, y5, y6, rfl⟩
    rw [Nat.sub_self, List.drop_zero]
    walk_at "gs"
    exact k
def t_put_word_number (K : PySem.W.Frag) (A : Ad) : TS :=
  (tFor (jR1 (tCons (mV 2) tNil)) (gName 5)
    (tSeq (tAsg (tOp mMod (mV 4) (tC (.int 256))) (gSub (mV 0) (tOp (mAdd K) (mV 1) (mIfE (mTr K (mV 3)) (tOp mSub (tOp mSub (mV 2) (tC (.int 1))) (mV 5)) (mV 5))) rSetL))
  (tAsg (tOp mFdiv (mV 4) (tC (.int 256))) (gName 4))))
theorem rd_put_word_number {K : PySem.W.Frag} {A : Ad} {vs : List V} {H : Hp} {Q : VK} {E : XK} (h : sp_put_word_number K A vs H Q E) : t_put_word_number K A { nx := fun _ H' => Q .non H', rt := Q } (start ["data", "offset", "size", "big", "number", "at"] vs) H := by
  obtain ⟨a, ds, o, n, big, z, rfl, ha, h0, h1, h2, h3, k⟩ := h
  show t_put_word_number K A _ [some (.ref a), some (.int o), some (.int n), some (.bl big), some (.int z), none] H
  unfold t_put_word_number
  have hz : o.toNat + n.toNat ≤ ds.length := by omega
  have hL : Led K H [a] H [(a, .raw (.lst (ds.map V.int)))] [] := Led.mk1 ha
  have hl : ∀ i : Nat, i ≤ n.toNat → (ord big (dg 256 i z ++ (ord big (seg ds o.toNat n.toNat)).drop i)).length = n.toNat := fun i hi => by rw [ord_len, List.length_append, dg_len, List.length_drop, ord_len, seg_len hz]; omega
  walk_at "gs"
  refine lpR (fun i σ H1 => ∃ y : Option V, σ = [some (.ref a), some (.int o), some (.int n), some (.bl big), some (.int (z / 256 ^ i)), y] ∧
      Led K H [a] H1 [(a, .raw (.lst ((putSeg ds o.toNat (ord big (dg 256 i z ++ (ord big (seg ds o.toNat n.toNat)).drop i))).map V.int)))] [])
    ⟨none, by rw [Int.pow_zero, Int.ediv_one], by rw [List.drop_zero]; show Led K H [a] H [(a, .raw (.lst ((putSeg ds o.toNat (ord big (ord big (seg ds o.toNat n.toNat)))).map V.int)))] []; rw [ord_ord, putSeg_seg hz]; exact hL⟩ ?_ ?_
  · rintro i σ H1 hi ⟨y, rfl, hl1⟩
    have nx := pw_next (big := big) (z := z) hz hi
    have hlen : (putSeg ds o.toNat (ord big (dg 256 i z ++ (ord big (seg ds o.toNat n.toNat)).drop i))).length = ds.length := putSeg_len (by rw [hl i (by omega)]; exact hz)
    have e : z / 256 ^ i / 256 = z / 256 ^ (i + 1) := by rw [Int.ediv_ediv_of_nonneg (Int.le_of_lt (Int.pow_pos (by decide))), Int.pow_succ]
    walk_at "gs"
    cases big
    · walk_at "gs"
      refine h_setI 0 hl1 rfl (.inr (by simp)) (by omega) (by omega) fun H2 h2 => ?_
      rw [show (o + (0 + (i : Int))).toNat = o.toNat + i by omega] at h2
      walk_at "gs"
      rw [e]
      refine ⟨_, rfl, ?_⟩
      rw [← nx]
      exact h2
    · walk_at "gs"
      refine h_setI 0 hl1 rfl (.inr (by simp)) (by omega) (by omega) fun H2 h2 => ?_
      rw [show (o + (n - 1 - (0 + (i : Int)))).toNat = o.toNat + (n.toNat - 1 - i) by omega] at h2
      walk_at "gs"
      rw [e]
      refine ⟨_, rfl, ?_⟩
      rw [← nx]
      exact h2
  · rintro σ H1 ⟨y, rfl, h4⟩
    rw [List.drop_eq_nil_of_le (by rw [ord_len, seg_len hz]; exact Nat.le_refl _), List.append_nil] at h4
    exact k H1 h4.kp (h4.raw 0 rfl)
def t_read_slot (K : PySem.W.Frag) (A : Ad) : TS :=
  (tSeq (tAsg (tOp mMod (tOp mFdiv (tCall (sp_word_number K A) [] E0 (tCons (mV 0) (tCons (mV 1) (tCons (mV 2) (tCons (mV 3) tNil))))) (tCall (sp_power K A) [] E0 (tCons (mV 4) tNil))) (tCall (sp_power K A) [] E0 (tCons (mV 5) tNil))) (gName 7))
  (tSeq (mIf (tAnd (mTr K (mV 6)) (mTest (tOp mGe (mV 7) (tCall (sp_power K A) [] E0 (tCons (tOp mSub (mV 5) (tC (.int 1))) tNil)))))
    (tRet (tOp mSub (mV 7) (tCall (sp_power K A) [] E0 (tCons (mV 5) tNil))))
    tNext)
  (tRet (mV 7))))
theorem rd_read_slot {K : PySem.W.Frag} {A : Ad} {vs : List V} {H : Hp} {Q : VK} {E : XK} (h : sp_read_slot K A vs H Q E) : t_read_slot K A { nx := fun _ H' => Q .non H', rt := Q } (start ["data", "offset", "size", "big", "first", "width", "signed", "number"] vs) H := by
  obtain ⟨a, ds, o, n, big, f, w, s, rfl, hS, h0, h1, h2, h3, h4, h5, h6, h7, k⟩ := h
  show t_read_slot K A _ [some (.ref a), some (.int o), some (.int n), some (.bl big), some (.int f), some (.int w), some (.bl s), none] H
  unfold t_read_slot
  have e : (w - 1).toNat = w.toNat - 1 := by omega
  have pf := p2_pos f.toNat
  have pw := p2_pos w.toNat
  have pf2 : (2 : Int) ^ f.toNat ≤ 2 ^ 63 := p2_le (by omega)
  walk_at "gs"
  refine ⟨a, ds, o, n, big, rfl, hS, h0, h1, h2, h3, ?_⟩
  walk_at "gs"
  unfold rslot sgn at k
  refine h_itb (fun hs => ?_) (fun hs => ?_)
  · subst hs
    walk_at "gs"
    refine h_br (fun hc => ?_) (fun hc => ?_)
    · rw [e] at hc
      rw [if_pos ⟨rfl, hc⟩] at k
      walk_at "gs"
      exact k
    · rw [e] at hc
      rw [if_neg (fun z => hc z.2)] at k
      walk_at "gs"
      exact k
  · subst hs
    rw [if_neg (fun z => Bool.false_ne_true z.1)] at k
    walk_at "gs"
    exact k
def t_write_slot (K : PySem.W.Frag) (A : Ad) (W : WX) : TS :=
  (tSeq (tAsg (tCall (sp_bounds K A) [] E0 (tCons (mV 5) (tCons (mV 6) tNil))) (gTup K 2 (mGc (gName 8) (mGc (gName 9) mGn))))
  (tSeq (mIf (tOr (mTest (tOp mLt (mV 7) (mV 8))) (mTest (tOp mGt (mV 7) (mV 9))))
    (mRaise0 A.c_OutOfRange W)
    tNext)
  (tSeq (tAsg (tCall (sp_word_number K A) [] E0 (tCons (mV 0) (tCons (mV 1) (tCons (mV 2) (tCons (mV 3) tNil))))) (gName 10))
  (tSeq (tAsg (tOp mMod (tOp mFdiv (mV 10) (tCall (sp_power K A) [] E0 (tCons (mV 4) tNil))) (tCall (sp_power K A) [] E0 (tCons (mV 5) tNil))) (gName 11))
  (tSeq (tAsg (tOp mMod (mV 7) (tCall (sp_power K A) [] E0 (tCons (mV 5) tNil))) (gName 12))
  (tDrop (tCall (sp_put_word_number K A) [] E0 (tCons (mV 0) (tCons (mV 1) (tCons (mV 2) (tCons (mV 3) (tCons (tOp (mAdd K) (mV 10) (tOp mMul (tOp mSub (mV 12) (mV 11)) (tCall (sp_power K A) [] E0 (tCons (mV 4) tNil)))) tNil))))))))))))
theorem rd_write_slot {K : PySem.W.Frag} {A : Ad} {vs : List V} {H : Hp} {Q : VK} {E : XK} (h : sp_write_slot K A vs H Q E) : t_write_slot K A (fun cls d _ H => E cls d H) { nx := fun _ H' => Q .non H', rt := Q } (start ["data", "offset", "size", "big", "first", "width", "signed", "value", "least", "most", "number", "old", "new"] vs) H := by
  obtain ⟨a, ds, o, n, big, f, w, s, v, rfl, ha, h0, h1, h2, h3, h4, h5, h6, h7, kx, k⟩ := h
  show t_write_slot K A _ _ [some (.ref a), some (.int o), some (.int n), some (.bl big), some (.int f), some (.int w), some (.bl s), some (.int v), none, none, none, none, none] H
  unfold t_write_slot
  have hL : Led K H [a] H [(a, .raw (.lst (ds.map V.int)))] [] := Led.mk1 ha
  have e : (w - 1).toNat = w.toNat - 1 := by omega
  have pf := p2_pos f.toNat
  have pw := p2_pos w.toNat
  have pf2 : (2 : Int) ^ f.toNat ≤ 2 ^ 63 := p2_le (by omega)
  have pw2 : (2 : Int) ^ w.toNat ≤ 2 ^ 63 := p2_le (by omega)
  walk_at "gs"
  rename_i p H1 hp1
  have s1 : Same H H1 := fun b u hb => by
    rcases Classical.em (b = a) with z | z
    · subst z
      rw [hb] at ha
      cases ha
      exact hp1.raw 0 rfl
    · exact hp1.kp b u hb (by simpa using z)
  have raise : (v < lo w.toNat s ∨ hi w.toNat s < v) → E (.ref A.c_OutOfRange) none H1 := fun q => kx q H1 s1
  refine h_ite (fun hc => ?_) (fun hc => ?_)
  · walk_at "gs"
    exact raise (.inl hc)
  · walk_at "gs"
    refine h_br (fun hc2 => ?_) (fun hc2 => ?_)
    · walk_at "gs"
      exact raise (.inr hc2)
    · clear hL
      walk_at "gs"
      have b1 := Int.emod_nonneg v (show (2 : Int) ^ w.toNat ≠ 0 by omega)
      have b2 := Int.emod_lt_of_pos v pw
      have b3 := Int.emod_nonneg (wnum ds o.toNat n.toNat big / 2 ^ f.toNat) (show (2 : Int) ^ w.toNat ≠ 0 by omega)
      have b4 := Int.emod_lt_of_pos (wnum ds o.toNat n.toNat big / 2 ^ f.toNat) pw
      walk_at "gs"
      rename_i H2 h8
      exact k (by omega) (by omega) H2 h8.kp (h8.raw 0 rfl)
def t_read_word (K : PySem.W.Frag) (A : Ad) : TS :=
  (tRet (tCall (sp_word_number K A) [] E0 (tCons (mV 0) (tCons (mV 1) (tCons (mV 2) (tCons (tC (.bl false)) tNil))))))
theorem rd_read_word {K : PySem.W.Frag} {A : Ad} {vs : List V} {H : Hp} {Q : VK} {E : XK} (h : sp_read_word K A vs H Q E) : t_read_word K A { nx := fun _ H' => Q .non H', rt := Q } (start ["data", "offset", "size"] vs) H := by
  obtain ⟨a, ds, o, n, rfl, hS, h0, h1, h2, h3, k⟩ := h
  show t_read_word K A _ [some (.ref a), some (.int o), some (.int n)] H
  unfold t_read_word
  walk_at "gs"
  exact ⟨a, ds, o, n, false, rfl, hS, h0, h1, h2, h3, k⟩
def t_write_word (K : PySem.W.Frag) (A : Ad) : TS :=
  (tDrop (tCall (sp_put_word_number K A) [] E0 (tCons (mV 0) (tCons (mV 1) (tCons (mV 2) (tCons (tC (.bl false)) (tCons (mV 3) tNil)))))))
theorem rd_write_word {K : PySem.W.Frag} {A : Ad} {vs : List V} {H : Hp} {Q : VK} {E : XK} (h : sp_write_word K A vs H Q E) : t_write_word K A { nx := fun _ H' => Q .non H', rt := Q } (start ["data", "offset", "size", "value"] vs) H := by
  obtain ⟨a, ds, o, n, z, rfl, ha, h0, h1, h2, h3, k⟩ := h
  show t_write_word K A _ [some (.ref a), some (.int o), some (.int n), some (.int z)] H
  unfold t_write_word
  walk_at "gs"
  refine ⟨a, ds, o, n, false, z, rfl, ha, h0, h1, h2, h3, fun H1 kb h1 => ?_⟩
  walk_at "gs"
  exact k H1 kb h1

/-! ### more of works, for the laws -/
theorem pick_tail (A X : List (Addr × Ent)) : pickL ((List.range X.length).map (· + A.length)) (A ++ X) = X := by
  refine List.ext_getElem? fun i => ?_
  unfold pickL
  rw [List.map_map, List.getElem?_map]
  by_cases h : i < X.length
  · rw [List.getElem?_range h]
    show some ((A ++ X)[i + A.length]?.getD (0, .dl [])) = X[i]?
    rw [List.getElem?_append_right (by omega), Nat.add_sub_cancel, List.getElem?_eq_getElem h]
    rfl
  · rw [List.getElem?_eq_none (by rw [List.length_range]; omega), List.getElem?_eq_none (by omega)]
    rfl
section
variable {K : PySem.W.Frag} {Ad' : Ad} {H0 H H' : Hp} {S : List Addr} {I : List (V × PyData)} {A X : List (Addr × Ent)}
theorem Led.pre (h : Led K H0 S H (A ++ X) I) (S1 : List Addr) (I1 : List (V × PyData)) (hi : ∀ (n : Nat) v d, I1[n]? = some (v, d) → Im K H v d) : Led K H S1 H A I1 := by
  refine ⟨?_, fun n b e q => h.at_ n b e ?_, hi, KBs.refl⟩
  · have q := h.nd
    rw [List.map_append] at q
    exact (List.nodup_append.mp q).1
  · rw [List.getElem?_append_left (List.getElem?_eq_some_iff.mp q).1]
    exact q
/-- back from a callee that had the entries A and may have changed those at g -/
theorem Led.backA {L1 : List (Addr × Ent)} {I1 : List (V × PyData)} {S1 : List Addr} (h : Led K H0 S H (A ++ X) I) (g : List Nat) (c : Led K H S1 H' L1 I1) (hS : ∀ b ∈ S1, b ∈ adr A g) (hd : ∀ e ∈ L1, e.1 ∈ A.map (·.1) ∨ H e.1 = none) (hs : ∀ b ∈ adr A g, H0 b = none ∨ b ∈ S)
    (hg : (g.all fun n => decide (n < A.length)) = true := by rfl) (hm : (g.all fun n => entMut (A[n]?.getD (0, .dl [])).2) = true := by rfl) : Led K H0 S H' (L1 ++ X) (I1 ++ I) := by
  have inA : ∀ n ∈ g, n < A.length := fun n hn => of_decide_eq_true (List.all_eq_true.mp hg n hn)
  have at1 : ∀ n, n < A.length → (A ++ X)[n]? = A[n]? := fun n hn => List.getElem?_append_left hn
  have adrg : adr (A ++ X) g = adr A g := List.map_congr_left fun n hn => by rw [at1 n (inA n hn)]
  have q := h.back ((List.range X.length).map (· + A.length)) g (List.range A.length) c (by rw [adrg]; exact hS) (fun e he => (hd e he).imp (fun m => by
      obtain ⟨y, hy, hy2⟩ := List.mem_map.mp m
      obtain ⟨i, hi, hi2⟩ := List.getElem_of_mem hy
      refine List.mem_map.mpr ⟨i, List.mem_range.mpr hi, ?_⟩
      rw [at1 i hi, List.getElem?_eq_getElem hi, hi2, ← hy2]
      rfl) id) (by rw [adrg]; exact hs)
    (List.nodup_append.mpr ⟨List.pairwise_map.mpr ((List.nodup_range (n := X.length)).imp fun h e => h (by omega)), List.nodup_range, fun a ha b hb e => by
      obtain ⟨i, _, hi⟩ := List.mem_map.mp ha
      have := List.mem_range.mp hb
      omega⟩)
    (List.all_eq_true.mpr fun n hn => List.contains_iff_mem.mpr (List.mem_range.mpr (inA n hn)))
    (List.all_eq_true.mpr fun n hn => decide_eq_true (by
      rw [List.length_append]
      rcases List.mem_append.mp hn with hn | hn
      · obtain ⟨i, hi, rfl⟩ := List.mem_map.mp hn
        have := List.mem_range.mp hi
        omega
      · have := List.mem_range.mp hn
        omega))
    (List.all_eq_true.mpr fun n hn => by
      rw [at1 n (inA n hn)]
      exact List.all_eq_true.mp hm n hn)
  rw [pick_tail] at q
  exact q
end
theorem putSeg_get {D s : List Int} {p : Nat} (h : p + s.length ≤ D.length) (j : Nat) : (putSeg D p s)[j]? = if j < p then D[j]? else if j < p + s.length then s[j - p]? else D[j]? := by
  unfold putSeg
  have e : (D.take p).length = p := by rw [List.length_take]; omega
  by_cases h1 : j < p
  · rw [if_pos h1, List.append_assoc, List.getElem?_append_left (by omega), List.getElem?_take_of_lt h1]
  · rw [if_neg h1]
    by_cases h2 : j < p + s.length
    · rw [if_pos h2, List.getElem?_append_left (by rw [List.length_append]; omega), List.getElem?_append_right (by omega), e]
    · rw [if_neg h2, List.getElem?_append_right (by rw [List.length_append]; omega), List.length_append, e, List.getElem?_drop, show p + s.length + (j - (p + s.length)) = j by omega]
theorem putSeg_nil {D : List Int} {p : Nat} : putSeg D p [] = D := by
  unfold putSeg
  rw [List.append_nil, List.length_nil, Nat.add_zero, List.take_append_drop]
theorem putSeg_snoc {D bs : List Int} {p i : Nat} (h : p + bs.length ≤ D.length) (hi : i < bs.length) : (putSeg D p (bs.take i)).set (p + i) (bs.getD i 0) = putSeg D p (bs.take (i + 1)) := by
  have l1 : (bs.take i).length = i := by rw [List.length_take]; omega
  have l2 : (bs.take (i + 1)).length = i + 1 := by rw [List.length_take]; omega
  refine List.ext_getElem? fun j => ?_
  rw [List.getElem?_set, putSeg_len (by rw [l1]; omega), putSeg_get (by rw [l1]; omega), putSeg_get (by rw [l2]; omega), l1, l2]
  by_cases e : p + i = j
  · subst e
    rw [if_pos rfl, if_pos (by omega), if_neg (by omega), if_pos (by omega), Nat.add_sub_cancel_left, List.getElem?_take_of_lt (by omega), List.getD_eq_getElem?_getD, List.getElem?_eq_getElem hi]
    rfl
  · rw [if_neg e]
    by_cases h1 : j < p
    · rw [if_pos h1, if_pos h1]
    · rw [if_neg h1, if_neg h1]
      by_cases h2 : j < p + i
      · rw [if_pos h2, if_pos (by omega), List.getElem?_take_of_lt (by omega), List.getElem?_take_of_lt (by omega)]
      · rw [if_neg h2, if_neg (by omega)]
theorem seg_snoc {D : List Int} {p m : Nat} (h : p + m < D.length) : seg D p m ++ [D.getD (p + m) 0] = seg D p (m + 1) := by
  unfold seg
  rw [show p + (m + 1) = (p + m) + 1 by omega, List.take_add_one, List.drop_append_of_le_length (by rw [List.length_take]; omega), List.getElem?_eq_getElem h, List.getD_eq_getElem?_getD, List.getElem?_eq_getElem h]
  rfl
theorem seg_zero {D : List Int} {p : Nat} : seg D p 0 = [] := by
  unfold seg
  exact List.drop_eq_nil_of_le (by rw [List.length_take]; omega)
def sp__law_same (K : PySem.W.Frag) (A : Ad) : Sp := fun vs H Q _ => ∃ (x y : V) (d : PyData) (n W : Nat), vs = [x, y] ∧ Dp K H x d ∧ Dp K H y d ∧ shw n W d ∧ n ≤ 60 ∧ W ≤ 2 ^ 20 ∧ Q (.bl true) H
section
variable {K : PySem.W.Frag} {A : Ad} {H0 H : Hp} {S : List Addr} {L X : List (Addr × Ent)} {I : List (V × PyData)} {Q : VK} {E : XK} {a d : Addr} {x y : V}
theorem h_same {d : PyData} {n W : Nat} (hx : Dp K H x d) (hy : Dp K H y d) (h : shw n W d) (k : Q (.bl true) H) (h1 : n ≤ 60 := by decide) (h2 : W ≤ 2 ^ 20 := by decide) : sp__law_same K A [x, y] H Q E := ⟨x, y, d, n, W, rfl, hx, hy, h, h1, h2, k⟩
theorem h_sameI {i j : Int} (q : i = j) (h : i.natAbs < 10 ^ 12) (k : Q (.bl true) H) : sp__law_same K A [.int i, .int j] H Q E := by subst q; exact h_same (.int i) (.int i) (shw_int h) k
theorem h_inLs (n : Nat) (h : Led K H0 S H L I) {us : List V} (e : L[n]? = some (a, .raw (.lst us))) (f1 : flatV x = true) (f2 : us.all flatV = true) (k : Q (.bl (inV x us)) H) : uIn K x (.ref a) H Q :=
  .inl ⟨a, _, rfl, .inl (h.sqL n e), f1, f2, k⟩
theorem h_ninLs (n : Nat) (h : Led K H0 S H L I) {us : List V} (e : L[n]? = some (a, .raw (.lst us))) (f1 : flatV x = true) (f2 : us.all flatV = true) (k : Q (.bl (!inV x us)) H) : uNin K x (.ref a) H Q :=
  .inl ⟨a, _, rfl, .inl (h.sqL n e), f1, f2, k⟩
theorem h_gLst {n : Nat} {us : List V} {gs : TGs} {σ : L2.St} {Q : L2.St → Hp → Prop} (m : Nat) (h : Led K H0 S H L I) (e : L[m]? = some (a, .raw (.lst us))) (hn : us.length = n) (k : gs us σ H Q) : gLst K n gs (.ref a) σ H Q := ⟨a, us, rfl, h.sqL m e, hn, k⟩
end
theorem shw_ints {ds : List Int} (h : ∀ z ∈ ds, z.natAbs < 10 ^ 12) : shw 1 (ds.length * 42) (.list (ds.map PyData.int)) := by
  have q := shw_list (n := 0) (W := 41) (ds := ds.map PyData.int) fun x hx => by
    obtain ⟨z, hz, rfl⟩ := List.mem_map.mp hx
    exact shw_int (h z hz)
  rw [List.length_map] at q
  exact q

local macro_rules | `(tactic| walk_at "im") => `(tactic| (first | apply Im.int | apply Im.str | apply Im.bl | apply Im.non | assumption | (apply h_imm 0; (case h => assumption); (case e => with_unfolding_all rfl)) | (apply h_imm 1; (case h => assumption); (case e => with_unfolding_all rfl)) | (apply h_imm 2; (case h => assumption); (case e => with_unfolding_all rfl)) | (apply h_imm 3; (case h => assumption); (case e => with_unfolding_all rfl)) | (apply h_imm 4; (case h => assumption); (case e => with_unfolding_all rfl)) | (apply h_imm 5; (case h => assumption); (case e => with_unfolding_all rfl))))
local macro_rules | `(tactic| walk_at "ims") => `(tactic| repeat (first | apply Ims.nil | (apply Ims.cons; (focus (first | apply Im.int | apply Im.str | apply Im.bl | apply Im.non | assumption | (apply h_imm 0; (case h => assumption); (case e => with_unfolding_all rfl)) | (apply h_imm 1; (case h => assumption); (case e => with_unfolding_all rfl)) | (apply h_imm 2; (case h => assumption); (case e => with_unfolding_all rfl)) | (apply h_imm 3; (case h => assumption); (case e => with_unfolding_all rfl)) | (apply h_imm 4; (case h => assumption); (case e => with_unfolding_all rfl)) | (apply h_imm 5; (case h => assumption); (case e => with_unfolding_all rfl)))))))
local macro_rules | `(tactic| walk_at "sz") => `(tactic| (rw [sizeLine_eq]; ((try simp only [List.length_append, List.length_cons, List.length_nil, List.length_map, List.length_replicate, List.length_set, List.length_take, List.length_drop]) <;> omega)))
local macro_rules | `(tactic| walk_at "fr") => `(tactic| (first | assumption | (apply Or.inl; assumption) | (apply Or.inr; simp)))
local macro_rules | `(tactic| walk_at "ds") => `(tactic| dsimp only [a_lk0, a_lk1, a_lkS, a_V, a_vl, a_c, a_op, a_un, a_test, a_toB, a_tr, a_trB, a_trI, a_trN, a_and, a_or, a_not, a_andV, a_orV, a_notV, a_ifE, a_nil, a_cons, a_lst, a_tup, a_call, a_CB, a_BM, a_BM0, a_sl, a_part, a_partI, a_noPart, a_seq, a_next, a_brk, a_cont, a_asg, a_name, a_drop, a_ret, a_retN, a_if, a_aug, a_for, a_lc, a_jR1, a_jR2, a_jL, a_jT, a_rg1, a_rg2, a_gsub, a_yes, a_addI, a_addS, a_addR, a_iaddI, a_iaddS, a_sub, a_mulI, a_mulR, a_fdiv, a_mod, a_pow, a_shl, a_shr, a_lt, a_le, a_gt, a_ge, a_neg, a_EqI, a_EqS, a_EqB, a_EqNN, a_EqIN, a_EqNI, a_EqSN, a_EqNS, a_EqRR, a_EqRN, a_EqNR, a_NeI, a_NeS, a_NeB, a_NeNN, a_NeIN, a_NeNI, a_NeSN, a_NeNS, a_NeRR, a_NeRN, a_NeNR, a_isNN, a_isNI, a_isNS, a_isNB, a_isNR, a_notNN, a_notNI, a_notNS, a_notNB, a_notNR, a_intI, a_intB, a_abs, a_gnil, a_gcons, a_callS, a_raise0, a_tryAs, a_tryOnly, a_rev, a_jR3, a_fld, a_sfld, a_meth, a_methE, a_make, a_sfldaug, a_gslTo, wipe, List.set, List.nil_append, List.cons_append])
local macro_rules | `(tactic| walk_at "gs") => `(tactic| repeat (first | dsimp only [a_lk0, a_lk1, a_lkS, a_V, a_vl, a_c, a_op, a_un, a_test, a_toB, a_tr, a_trB, a_trI, a_trN, a_and, a_or, a_not, a_andV, a_orV, a_notV, a_ifE, a_nil, a_cons, a_lst, a_tup, a_call, a_CB, a_BM, a_BM0, a_sl, a_part, a_partI, a_noPart, a_seq, a_next, a_brk, a_cont, a_asg, a_name, a_drop, a_ret, a_retN, a_if, a_aug, a_for, a_lc, a_jR1, a_jR2, a_jL, a_jT, a_rg1, a_rg2, a_gsub, a_yes, a_addI, a_addS, a_addR, a_iaddI, a_iaddS, a_sub, a_mulI, a_mulR, a_fdiv, a_mod, a_pow, a_shl, a_shr, a_lt, a_le, a_gt, a_ge, a_neg, a_EqI, a_EqS, a_EqB, a_EqNN, a_EqIN, a_EqNI, a_EqSN, a_EqNS, a_EqRR, a_EqRN, a_EqNR, a_NeI, a_NeS, a_NeB, a_NeNN, a_NeIN, a_NeNI, a_NeSN, a_NeNS, a_NeRR, a_NeRN, a_NeNR, a_isNN, a_isNI, a_isNS, a_isNB, a_isNR, a_notNN, a_notNI, a_notNS, a_notNB, a_notNR, a_intI, a_intB, a_abs, a_gnil, a_gcons, a_callS, a_raise0, a_tryAs, a_tryOnly, a_rev, a_jR3, a_fld, a_sfld, a_meth, a_methE, a_make, a_sfldaug, a_gslTo, wipe, List.set, List.nil_append, List.cons_append] | with_reducible (first
  | (apply h_draw 0; (case h => assumption); (case e => with_unfolding_all rfl); (case e2 => with_unfolding_all rfl); (case h0 => (first | decide | omega | (simp only [List.length_map, List.length_append, List.length_take, List.length_drop, List.length_set]; omega))); (case h1 => (first | decide | omega | (simp only [List.length_map, List.length_append, List.length_take, List.length_drop, List.length_set]; omega))); (case h2 => (first | decide | omega | (simp only [List.length_map, List.length_append, List.length_take, List.length_drop, List.length_set]; omega))); (case hs => (first | assumption | (apply Or.inl; assumption) | (apply Or.inr; simp))))
  | (apply h_draw 1; (case h => assumption); (case e => with_unfolding_all rfl); (case e2 => with_unfolding_all rfl); (case h0 => (first | decide | omega | (simp only [List.length_map, List.length_append, List.length_take, List.length_drop, List.length_set]; omega))); (case h1 => (first | decide | omega | (simp only [List.length_map, List.length_append, List.length_take, List.length_drop, List.length_set]; omega))); (case h2 => (first | decide | omega | (simp only [List.length_map, List.length_append, List.length_take, List.length_drop, List.length_set]; omega))); (case hs => (first | assumption | (apply Or.inl; assumption) | (apply Or.inr; simp))))
  | (apply h_draw 2; (case h => assumption); (case e => with_unfolding_all rfl); (case e2 => with_unfolding_all rfl); (case h0 => (first | decide | omega | (simp only [List.length_map, List.length_append, List.length_take, List.length_drop, List.length_set]; omega))); (case h1 => (first | decide | omega | (simp only [List.length_map, List.length_append, List.length_take, List.length_drop, List.length_set]; omega))); (case h2 => (first | decide | omega | (simp only [List.length_map, List.length_append, List.length_take, List.length_drop, List.length_set]; omega))); (case hs => (first | assumption | (apply Or.inl; assumption) | (apply Or.inr; simp))))
  | (apply h_draw 3; (case h => assumption); (case e => with_unfolding_all rfl); (case e2 => with_unfolding_all rfl); (case h0 => (first | decide | omega | (simp only [List.length_map, List.length_append, List.length_take, List.length_drop, List.length_set]; omega))); (case h1 => (first | decide | omega | (simp only [List.length_map, List.length_append, List.length_take, List.length_drop, List.length_set]; omega))); (case h2 => (first | decide | omega | (simp only [List.length_map, List.length_append, List.length_take, List.length_drop, List.length_set]; omega))); (case hs => (first | assumption | (apply Or.inl; assumption) | (apply Or.inr; simp))))
  | (apply h_ixL 0; (case h => assumption); (case e => with_unfolding_all rfl); (case hx => with_unfolding_all rfl))
  | (apply h_ixL 1; (case h => assumption); (case e => with_unfolding_all rfl); (case hx => with_unfolding_all rfl))
  | (apply h_ixL 2; (case h => assumption); (case e => with_unfolding_all rfl); (case hx => with_unfolding_all rfl))
  | (apply h_ixL 3; (case h => assumption); (case e => with_unfolding_all rfl); (case hx => with_unfolding_all rfl))
  | (apply h_ixL 4; (case h => assumption); (case e => with_unfolding_all rfl); (case hx => with_unfolding_all rfl))
  | (apply h_ixTv; (case hd => (first | apply Im.int | apply Im.str | apply Im.bl | apply Im.non | assumption | (apply h_imm 0; (case h => assumption); (case e => with_unfolding_all rfl)) | (apply h_imm 1; (case h => assumption); (case e => with_unfolding_all rfl)) | (apply h_imm 2; (case h => assumption); (case e => with_unfolding_all rfl)) | (apply h_imm 3; (case h => assumption); (case e => with_unfolding_all rfl)) | (apply h_imm 4; (case h => assumption); (case e => with_unfolding_all rfl)) | (apply h_imm 5; (case h => assumption); (case e => with_unfolding_all rfl)))); (case h0 => (first | decide | omega | (simp only [List.length_map, List.length_append, List.length_take, List.length_drop, List.length_set]; omega))); (case hx => with_unfolding_all rfl); (case hv => with_unfolding_all rfl))
  | (apply h_slPre; (case h => assumption); (case hd => (first | apply Im.int | apply Im.str | apply Im.bl | apply Im.non | assumption | (apply h_imm 0; (case h => assumption); (case e => with_unfolding_all rfl)) | (apply h_imm 1; (case h => assumption); (case e => with_unfolding_all rfl)) | (apply h_imm 2; (case h => assumption); (case e => with_unfolding_all rfl)) | (apply h_imm 3; (case h => assumption); (case e => with_unfolding_all rfl)) | (apply h_imm 4; (case h => assumption); (case e => with_unfolding_all rfl)) | (apply h_imm 5; (case h => assumption); (case e => with_unfolding_all rfl)))); (case h0 => (first | decide | omega | (simp only [List.length_map, List.length_append, List.length_take, List.length_drop, List.length_set]; omega))))
  | (apply h_gtupV; (case h => (first | apply Im.int | apply Im.str | apply Im.bl | apply Im.non | assumption | (apply h_imm 0; (case h => assumption); (case e => with_unfolding_all rfl)) | (apply h_imm 1; (case h => assumption); (case e => with_unfolding_all rfl)) | (apply h_imm 2; (case h => assumption); (case e => with_unfolding_all rfl)) | (apply h_imm 3; (case h => assumption); (case e => with_unfolding_all rfl)) | (apply h_imm 4; (case h => assumption); (case e => with_unfolding_all rfl)) | (apply h_imm 5; (case h => assumption); (case e => with_unfolding_all rfl)))); (case hn => with_unfolding_all rfl); (case hv => with_unfolding_all rfl))
  | (apply h_isiB)
  | (apply h_eqr)
  | (apply iteT)
  | (apply h_nT)
  | (apply h_nF)
  | (apply iteF)
  | (apply h_brT)
  | (apply h_brF)
  | (apply h_brET)
  | (apply h_brEF)
  | (apply h_brNT)
  | (apply h_brNF)
  | (apply h_append 0; (case h => assumption); (case e => with_unfolding_all rfl); (case hs => (first | assumption | (apply Or.inl; assumption) | (apply Or.inr; simp))); (case z => (rw [sizeLine_eq]; ((try simp only [List.length_append, List.length_cons, List.length_nil, List.length_map, List.length_replicate, List.length_set, List.length_take, List.length_drop]) <;> omega))))
  | (apply h_append 1; (case h => assumption); (case e => with_unfolding_all rfl); (case hs => (first | assumption | (apply Or.inl; assumption) | (apply Or.inr; simp))); (case z => (rw [sizeLine_eq]; ((try simp only [List.length_append, List.length_cons, List.length_nil, List.length_map, List.length_replicate, List.length_set, List.length_take, List.length_drop]) <;> omega))))
  | (apply h_append 2; (case h => assumption); (case e => with_unfolding_all rfl); (case hs => (first | assumption | (apply Or.inl; assumption) | (apply Or.inr; simp))); (case z => (rw [sizeLine_eq]; ((try simp only [List.length_append, List.length_cons, List.length_nil, List.length_map, List.length_replicate, List.length_set, List.length_take, List.length_drop]) <;> omega))))
  | (apply h_append 3; (case h => assumption); (case e => with_unfolding_all rfl); (case hs => (first | assumption | (apply Or.inl; assumption) | (apply Or.inr; simp))); (case z => (rw [sizeLine_eq]; ((try simp only [List.length_append, List.length_cons, List.length_nil, List.length_map, List.length_replicate, List.length_set, List.length_take, List.length_drop]) <;> omega))))
  | (apply h_append 4; (case h => assumption); (case e => with_unfolding_all rfl); (case hs => (first | assumption | (apply Or.inl; assumption) | (apply Or.inr; simp))); (case z => (rw [sizeLine_eq]; ((try simp only [List.length_append, List.length_cons, List.length_nil, List.length_map, List.length_replicate, List.length_set, List.length_take, List.length_drop]) <;> omega))))
  | (apply h_appendD 0; (case h => assumption); (case e => with_unfolding_all rfl); (case hd => (first | apply Im.int | apply Im.str | apply Im.bl | apply Im.non | assumption | (apply h_imm 0; (case h => assumption); (case e => with_unfolding_all rfl)) | (apply h_imm 1; (case h => assumption); (case e => with_unfolding_all rfl)) | (apply h_imm 2; (case h => assumption); (case e => with_unfolding_all rfl)) | (apply h_imm 3; (case h => assumption); (case e => with_unfolding_all rfl)) | (apply h_imm 4; (case h => assumption); (case e => with_unfolding_all rfl)) | (apply h_imm 5; (case h => assumption); (case e => with_unfolding_all rfl)))); (case hs => (first | assumption | (apply Or.inl; assumption) | (apply Or.inr; simp))); (case z => (rw [sizeLine_eq]; ((try simp only [List.length_append, List.length_cons, List.length_nil, List.length_map, List.length_replicate, List.length_set, List.length_take, List.length_drop]) <;> omega))))
  | (apply h_appendD 1; (case h => assumption); (case e => with_unfolding_all rfl); (case hd => (first | apply Im.int | apply Im.str | apply Im.bl | apply Im.non | assumption | (apply h_imm 0; (case h => assumption); (case e => with_unfolding_all rfl)) | (apply h_imm 1; (case h => assumption); (case e => with_unfolding_all rfl)) | (apply h_imm 2; (case h => assumption); (case e => with_unfolding_all rfl)) | (apply h_imm 3; (case h => assumption); (case e => with_unfolding_all rfl)) | (apply h_imm 4; (case h => assumption); (case e => with_unfolding_all rfl)) | (apply h_imm 5; (case h => assumption); (case e => with_unfolding_all rfl)))); (case hs => (first | assumption | (apply Or.inl; assumption) | (apply Or.inr; simp))); (case z => (rw [sizeLine_eq]; ((try simp only [List.length_append, List.length_cons, List.length_nil, List.length_map, List.length_replicate, List.length_set, List.length_take, List.length_drop]) <;> omega))))
  | (apply h_appendD 2; (case h => assumption); (case e => with_unfolding_all rfl); (case hd => (first | apply Im.int | apply Im.str | apply Im.bl | apply Im.non | assumption | (apply h_imm 0; (case h => assumption); (case e => with_unfolding_all rfl)) | (apply h_imm 1; (case h => assumption); (case e => with_unfolding_all rfl)) | (apply h_imm 2; (case h => assumption); (case e => with_unfolding_all rfl)) | (apply h_imm 3; (case h => assumption); (case e => with_unfolding_all rfl)) | (apply h_imm 4; (case h => assumption); (case e => with_unfolding_all rfl)) | (apply h_imm 5; (case h => assumption); (case e => with_unfolding_all rfl)))); (case hs => (first | assumption | (apply Or.inl; assumption) | (apply Or.inr; simp))); (case z => (rw [sizeLine_eq]; ((try simp only [List.length_append, List.length_cons, List.length_nil, List.length_map, List.length_replicate, List.length_set, List.length_take, List.length_drop]) <;> omega))))
  | (apply h_appendD 3; (case h => assumption); (case e => with_unfolding_all rfl); (case hd => (first | apply Im.int | apply Im.str | apply Im.bl | apply Im.non | assumption | (apply h_imm 0; (case h => assumption); (case e => with_unfolding_all rfl)) | (apply h_imm 1; (case h => assumption); (case e => with_unfolding_all rfl)) | (apply h_imm 2; (case h => assumption); (case e => with_unfolding_all rfl)) | (apply h_imm 3; (case h => assumption); (case e => with_unfolding_all rfl)) | (apply h_imm 4; (case h => assumption); (case e => with_unfolding_all rfl)) | (apply h_imm 5; (case h => assumption); (case e => with_unfolding_all rfl)))); (case hs => (first | assumption | (apply Or.inl; assumption) | (apply Or.inr; simp))); (case z => (rw [sizeLine_eq]; ((try simp only [List.length_append, List.length_cons, List.length_nil, List.length_map, List.length_replicate, List.length_set, List.length_take, List.length_drop]) <;> omega))))
  | (apply h_appendD 4; (case h => assumption); (case e => with_unfolding_all rfl); (case hd => (first | apply Im.int | apply Im.str | apply Im.bl | apply Im.non | assumption | (apply h_imm 0; (case h => assumption); (case e => with_unfolding_all rfl)) | (apply h_imm 1; (case h => assumption); (case e => with_unfolding_all rfl)) | (apply h_imm 2; (case h => assumption); (case e => with_unfolding_all rfl)) | (apply h_imm 3; (case h => assumption); (case e => with_unfolding_all rfl)) | (apply h_imm 4; (case h => assumption); (case e => with_unfolding_all rfl)) | (apply h_imm 5; (case h => assumption); (case e => with_unfolding_all rfl)))); (case hs => (first | assumption | (apply Or.inl; assumption) | (apply Or.inr; simp))); (case z => (rw [sizeLine_eq]; ((try simp only [List.length_append, List.length_cons, List.length_nil, List.length_map, List.length_replicate, List.length_set, List.length_take, List.length_drop]) <;> omega))))
  | (apply h_tyL 0; (case h => assumption); (case e => with_unfolding_all rfl))
  | (apply h_tyL 1; (case h => assumption); (case e => with_unfolding_all rfl))
  | (apply h_tyL 2; (case h => assumption); (case e => with_unfolding_all rfl))
  | (apply h_tyL 3; (case h => assumption); (case e => with_unfolding_all rfl))
  | (apply h_tyL 4; (case h => assumption); (case e => with_unfolding_all rfl))
  | (apply h_tyD 0; (case h => assumption); (case e => with_unfolding_all rfl))
  | (apply h_tyD 1; (case h => assumption); (case e => with_unfolding_all rfl))
  | (apply h_tyD 2; (case h => assumption); (case e => with_unfolding_all rfl))
  | (apply h_tyD 3; (case h => assumption); (case e => with_unfolding_all rfl))
  | (apply h_tyD 4; (case h => assumption); (case e => with_unfolding_all rfl))
  | (apply h_tyS)
  | (apply h_lenL 0; (case h => assumption); (case e => with_unfolding_all rfl))
  | (apply h_lenL 1; (case h => assumption); (case e => with_unfolding_all rfl))
  | (apply h_lenL 2; (case h => assumption); (case e => with_unfolding_all rfl))
  | (apply h_lenL 3; (case h => assumption); (case e => with_unfolding_all rfl))
  | (apply h_lenL 4; (case h => assumption); (case e => with_unfolding_all rfl))
  | (apply h_lenD 0; (case h => assumption); (case e => with_unfolding_all rfl))
  | (apply h_lenD 1; (case h => assumption); (case e => with_unfolding_all rfl))
  | (apply h_lenD 2; (case h => assumption); (case e => with_unfolding_all rfl))
  | (apply h_lenD 3; (case h => assumption); (case e => with_unfolding_all rfl))
  | (apply h_lenD 4; (case h => assumption); (case e => with_unfolding_all rfl))
  | (apply h_setL 0; (case h => assumption); (case e => with_unfolding_all rfl); (case hs => (first | assumption | (apply Or.inl; assumption) | (apply Or.inr; simp))); (case hi => with_unfolding_all rfl))
  | (apply h_setL 1; (case h => assumption); (case e => with_unfolding_all rfl); (case hs => (first | assumption | (apply Or.inl; assumption) | (apply Or.inr; simp))); (case hi => with_unfolding_all rfl))
  | (apply h_setL 2; (case h => assumption); (case e => with_unfolding_all rfl); (case hs => (first | assumption | (apply Or.inl; assumption) | (apply Or.inr; simp))); (case hi => with_unfolding_all rfl))
  | (apply h_setL 3; (case h => assumption); (case e => with_unfolding_all rfl); (case hs => (first | assumption | (apply Or.inl; assumption) | (apply Or.inr; simp))); (case hi => with_unfolding_all rfl))
  | (apply h_setL 4; (case h => assumption); (case e => with_unfolding_all rfl); (case hs => (first | assumption | (apply Or.inl; assumption) | (apply Or.inr; simp))); (case hi => with_unfolding_all rfl))
  | (apply h_isLn 0; (case h => assumption); (case e => with_unfolding_all rfl))
  | (apply h_isLn 1; (case h => assumption); (case e => with_unfolding_all rfl))
  | (apply h_isLn 2; (case h => assumption); (case e => with_unfolding_all rfl))
  | (apply h_isLn 3; (case h => assumption); (case e => with_unfolding_all rfl))
  | (apply h_isLn 4; (case h => assumption); (case e => with_unfolding_all rfl))
  | (apply h_isLd 0; (case h => assumption); (case e => with_unfolding_all rfl))
  | (apply h_isLd 1; (case h => assumption); (case e => with_unfolding_all rfl))
  | (apply h_isLd 2; (case h => assumption); (case e => with_unfolding_all rfl))
  | (apply h_isLd 3; (case h => assumption); (case e => with_unfolding_all rfl))
  | (apply h_isLd 4; (case h => assumption); (case e => with_unfolding_all rfl))
  | (apply h_isT; (case h => (first | apply Im.int | apply Im.str | apply Im.bl | apply Im.non | assumption | (apply h_imm 0; (case h => assumption); (case e => with_unfolding_all rfl)) | (apply h_imm 1; (case h => assumption); (case e => with_unfolding_all rfl)) | (apply h_imm 2; (case h => assumption); (case e => with_unfolding_all rfl)) | (apply h_imm 3; (case h => assumption); (case e => with_unfolding_all rfl)) | (apply h_imm 4; (case h => assumption); (case e => with_unfolding_all rfl)) | (apply h_imm 5; (case h => assumption); (case e => with_unfolding_all rfl)))))
  | (apply h_tupOf 0; (case h => assumption); (case e => with_unfolding_all rfl))
  | (apply h_tupOf 1; (case h => assumption); (case e => with_unfolding_all rfl))
  | (apply h_tupOf 2; (case h => assumption); (case e => with_unfolding_all rfl))
  | (apply h_tupOf 3; (case h => assumption); (case e => with_unfolding_all rfl))
  | (apply h_tupOf 4; (case h => assumption); (case e => with_unfolding_all rfl))
  | (apply h_listOf 0; (case h => assumption); (case e => with_unfolding_all rfl))
  | (apply h_listOf 1; (case h => assumption); (case e => with_unfolding_all rfl))
  | (apply h_listOf 2; (case h => assumption); (case e => with_unfolding_all rfl))
  | (apply h_listOf 3; (case h => assumption); (case e => with_unfolding_all rfl))
  | (apply h_listOf 4; (case h => assumption); (case e => with_unfolding_all rfl))
  | (apply h_lst; (case h => assumption); (case z => (rw [sizeLine_eq]; ((try simp only [List.length_append, List.length_cons, List.length_nil, List.length_map, List.length_replicate, List.length_set, List.length_take, List.length_drop]) <;> omega))))
  | (apply h_tup; (case h => assumption); (case z => (rw [sizeLine_eq]; ((try simp only [List.length_append, List.length_cons, List.length_nil, List.length_map, List.length_replicate, List.length_set, List.length_take, List.length_drop]) <;> omega))); (case hd => repeat (first | apply Ims.nil | (apply Ims.cons; (focus (first | apply Im.int | apply Im.str | apply Im.bl | apply Im.non | assumption | (apply h_imm 0; (case h => assumption); (case e => with_unfolding_all rfl)) | (apply h_imm 1; (case h => assumption); (case e => with_unfolding_all rfl)) | (apply h_imm 2; (case h => assumption); (case e => with_unfolding_all rfl)) | (apply h_imm 3; (case h => assumption); (case e => with_unfolding_all rfl)) | (apply h_imm 4; (case h => assumption); (case e => with_unfolding_all rfl)) | (apply h_imm 5; (case h => assumption); (case e => with_unfolding_all rfl))))))))
  | (apply And.intro; (case left => (first | decide | omega | (simp only [List.length_map, List.length_append, List.length_take, List.length_drop, List.length_set]; omega))))
  | (apply h_mr; (case h1 => (first | decide | omega | (simp only [List.length_map, List.length_append, List.length_take, List.length_drop, List.length_set]; omega))); (case h2 => (first | decide | omega | (simp only [List.length_map, List.length_append, List.length_take, List.length_drop, List.length_set]; omega))))
  | (apply h_ml; (case h1 => (first | decide | omega | (simp only [List.length_map, List.length_append, List.length_take, List.length_drop, List.length_set]; omega))); (case h2 => (first | decide | omega | (simp only [List.length_map, List.length_append, List.length_take, List.length_drop, List.length_set]; omega))))
  | (apply h_dv; (case h1 => (first | decide | omega | (simp only [List.length_map, List.length_append, List.length_take, List.length_drop, List.length_set]; omega))); (case h2 => (first | decide | omega | (simp only [List.length_map, List.length_append, List.length_take, List.length_drop, List.length_set]; omega))))
  | (apply h_pw; (case h1 => (first | decide | omega | (simp only [List.length_map, List.length_append, List.length_take, List.length_drop, List.length_set]; omega))); (case h2 => (first | decide | omega | (simp only [List.length_map, List.length_append, List.length_take, List.length_drop, List.length_set]; omega))); (case h3 => decide))
  | (apply And.intro; (case left => (rw [sizeLine_eq]; ((try simp only [List.length_append, List.length_cons, List.length_nil, List.length_map, List.length_replicate, List.length_set, List.length_take, List.length_drop]) <;> omega))))
  | (apply h_wnum 0; (case h => assumption); (case e => with_unfolding_all rfl); (case h0 => (first | decide | omega | (simp only [List.length_map, List.length_append, List.length_take, List.length_drop, List.length_set]; omega))); (case h1 => (first | decide | omega | (simp only [List.length_map, List.length_append, List.length_take, List.length_drop, List.length_set]; omega))); (case h2 => (first | decide | omega | (simp only [List.length_map, List.length_append, List.length_take, List.length_drop, List.length_set]; omega))); (case h3 => (first | decide | omega | (simp only [List.length_map, List.length_append, List.length_take, List.length_drop, List.length_set]; omega))))
  | (apply h_wnum 1; (case h => assumption); (case e => with_unfolding_all rfl); (case h0 => (first | decide | omega | (simp only [List.length_map, List.length_append, List.length_take, List.length_drop, List.length_set]; omega))); (case h1 => (first | decide | omega | (simp only [List.length_map, List.length_append, List.length_take, List.length_drop, List.length_set]; omega))); (case h2 => (first | decide | omega | (simp only [List.length_map, List.length_append, List.length_take, List.length_drop, List.length_set]; omega))); (case h3 => (first | decide | omega | (simp only [List.length_map, List.length_append, List.length_take, List.length_drop, List.length_set]; omega))))
  | (apply h_wnum 2; (case h => assumption); (case e => with_unfolding_all rfl); (case h0 => (first | decide | omega | (simp only [List.length_map, List.length_append, List.length_take, List.length_drop, List.length_set]; omega))); (case h1 => (first | decide | omega | (simp only [List.length_map, List.length_append, List.length_take, List.length_drop, List.length_set]; omega))); (case h2 => (first | decide | omega | (simp only [List.length_map, List.length_append, List.length_take, List.length_drop, List.length_set]; omega))); (case h3 => (first | decide | omega | (simp only [List.length_map, List.length_append, List.length_take, List.length_drop, List.length_set]; omega))))
  | (apply h_rdword 0; (case h => assumption); (case e => with_unfolding_all rfl); (case h0 => (first | decide | omega | (simp only [List.length_map, List.length_append, List.length_take, List.length_drop, List.length_set]; omega))); (case h1 => (first | decide | omega | (simp only [List.length_map, List.length_append, List.length_take, List.length_drop, List.length_set]; omega))); (case h2 => (first | decide | omega | (simp only [List.length_map, List.length_append, List.length_take, List.length_drop, List.length_set]; omega))); (case h3 => (first | decide | omega | (simp only [List.length_map, List.length_append, List.length_take, List.length_drop, List.length_set]; omega))))
  | (apply h_rdword 1; (case h => assumption); (case e => with_unfolding_all rfl); (case h0 => (first | decide | omega | (simp only [List.length_map, List.length_append, List.length_take, List.length_drop, List.length_set]; omega))); (case h1 => (first | decide | omega | (simp only [List.length_map, List.length_append, List.length_take, List.length_drop, List.length_set]; omega))); (case h2 => (first | decide | omega | (simp only [List.length_map, List.length_append, List.length_take, List.length_drop, List.length_set]; omega))); (case h3 => (first | decide | omega | (simp only [List.length_map, List.length_append, List.length_take, List.length_drop, List.length_set]; omega))))
  | (apply h_rdword 2; (case h => assumption); (case e => with_unfolding_all rfl); (case h0 => (first | decide | omega | (simp only [List.length_map, List.length_append, List.length_take, List.length_drop, List.length_set]; omega))); (case h1 => (first | decide | omega | (simp only [List.length_map, List.length_append, List.length_take, List.length_drop, List.length_set]; omega))); (case h2 => (first | decide | omega | (simp only [List.length_map, List.length_append, List.length_take, List.length_drop, List.length_set]; omega))); (case h3 => (first | decide | omega | (simp only [List.length_map, List.length_append, List.length_take, List.length_drop, List.length_set]; omega))))
  | (apply h_rslot 0; (case h => assumption); (case e => with_unfolding_all rfl); (case h0 => (first | decide | omega | (simp only [List.length_map, List.length_append, List.length_take, List.length_drop, List.length_set]; omega))); (case h1 => (first | decide | omega | (simp only [List.length_map, List.length_append, List.length_take, List.length_drop, List.length_set]; omega))); (case h2 => (first | decide | omega | (simp only [List.length_map, List.length_append, List.length_take, List.length_drop, List.length_set]; omega))); (case h3 => (first | decide | omega | (simp only [List.length_map, List.length_append, List.length_take, List.length_drop, List.length_set]; omega))); (case h4 => (first | decide | omega | (simp only [List.length_map, List.length_append, List.length_take, List.length_drop, List.length_set]; omega))); (case h5 => (first | decide | omega | (simp only [List.length_map, List.length_append, List.length_take, List.length_drop, List.length_set]; omega))); (case h6 => (first | decide | omega | (simp only [List.length_map, List.length_append, List.length_take, List.length_drop, List.length_set]; omega))); (case h7 => (first | decide | omega | (simp only [List.length_map, List.length_append, List.length_take, List.length_drop, List.length_set]; omega))))
  | (apply h_rslot 1; (case h => assumption); (case e => with_unfolding_all rfl); (case h0 => (first | decide | omega | (simp only [List.length_map, List.length_append, List.length_take, List.length_drop, List.length_set]; omega))); (case h1 => (first | decide | omega | (simp only [List.length_map, List.length_append, List.length_take, List.length_drop, List.length_set]; omega))); (case h2 => (first | decide | omega | (simp only [List.length_map, List.length_append, List.length_take, List.length_drop, List.length_set]; omega))); (case h3 => (first | decide | omega | (simp only [List.length_map, List.length_append, List.length_take, List.length_drop, List.length_set]; omega))); (case h4 => (first | decide | omega | (simp only [List.length_map, List.length_append, List.length_take, List.length_drop, List.length_set]; omega))); (case h5 => (first | decide | omega | (simp only [List.length_map, List.length_append, List.length_take, List.length_drop, List.length_set]; omega))); (case h6 => (first | decide | omega | (simp only [List.length_map, List.length_append, List.length_take, List.length_drop, List.length_set]; omega))); (case h7 => (first | decide | omega | (simp only [List.length_map, List.length_append, List.length_take, List.length_drop, List.length_set]; omega))))
  | (apply h_rslot 2; (case h => assumption); (case e => with_unfolding_all rfl); (case h0 => (first | decide | omega | (simp only [List.length_map, List.length_append, List.length_take, List.length_drop, List.length_set]; omega))); (case h1 => (first | decide | omega | (simp only [List.length_map, List.length_append, List.length_take, List.length_drop, List.length_set]; omega))); (case h2 => (first | decide | omega | (simp only [List.length_map, List.length_append, List.length_take, List.length_drop, List.length_set]; omega))); (case h3 => (first | decide | omega | (simp only [List.length_map, List.length_append, List.length_take, List.length_drop, List.length_set]; omega))); (case h4 => (first | decide | omega | (simp only [List.length_map, List.length_append, List.length_take, List.length_drop, List.length_set]; omega))); (case h5 => (first | decide | omega | (simp only [List.length_map, List.length_append, List.length_take, List.length_drop, List.length_set]; omega))); (case h6 => (first | decide | omega | (simp only [List.length_map, List.length_append, List.length_take, List.length_drop, List.length_set]; omega))); (case h7 => (first | decide | omega | (simp only [List.length_map, List.length_append, List.length_take, List.length_drop, List.length_set]; omega))))
  | (apply h_put 0; (case h => assumption); (case e => with_unfolding_all rfl); (case h0 => (first | decide | omega | (simp only [List.length_map, List.length_append, List.length_take, List.length_drop, List.length_set]; omega))); (case h1 => (first | decide | omega | (simp only [List.length_map, List.length_append, List.length_take, List.length_drop, List.length_set]; omega))); (case h2 => (first | decide | omega | (simp only [List.length_map, List.length_append, List.length_take, List.length_drop, List.length_set]; omega))); (case h3 => (first | decide | omega | (simp only [List.length_map, List.length_append, List.length_take, List.length_drop, List.length_set]; omega))); (case hs => (first | assumption | (apply Or.inl; assumption) | (apply Or.inr; simp))))
  | (apply h_put 1; (case h => assumption); (case e => with_unfolding_all rfl); (case h0 => (first | decide | omega | (simp only [List.length_map, List.length_append, List.length_take, List.length_drop, List.length_set]; omega))); (case h1 => (first | decide | omega | (simp only [List.length_map, List.length_append, List.length_take, List.length_drop, List.length_set]; omega))); (case h2 => (first | decide | omega | (simp only [List.length_map, List.length_append, List.length_take, List.length_drop, List.length_set]; omega))); (case h3 => (first | decide | omega | (simp only [List.length_map, List.length_append, List.length_take, List.length_drop, List.length_set]; omega))); (case hs => (first | assumption | (apply Or.inl; assumption) | (apply Or.inr; simp))))
  | (apply h_put 2; (case h => assumption); (case e => with_unfolding_all rfl); (case h0 => (first | decide | omega | (simp only [List.length_map, List.length_append, List.length_take, List.length_drop, List.length_set]; omega))); (case h1 => (first | decide | omega | (simp only [List.length_map, List.length_append, List.length_take, List.length_drop, List.length_set]; omega))); (case h2 => (first | decide | omega | (simp only [List.length_map, List.length_append, List.length_take, List.length_drop, List.length_set]; omega))); (case h3 => (first | decide | omega | (simp only [List.length_map, List.length_append, List.length_take, List.length_drop, List.length_set]; omega))); (case hs => (first | assumption | (apply Or.inl; assumption) | (apply Or.inr; simp))))
  | (apply h_wrword 0; (case h => assumption); (case e => with_unfolding_all rfl); (case h0 => (first | decide | omega | (simp only [List.length_map, List.length_append, List.length_take, List.length_drop, List.length_set]; omega))); (case h1 => (first | decide | omega | (simp only [List.length_map, List.length_append, List.length_take, List.length_drop, List.length_set]; omega))); (case h2 => (first | decide | omega | (simp only [List.length_map, List.length_append, List.length_take, List.length_drop, List.length_set]; omega))); (case h3 => (first | decide | omega | (simp only [List.length_map, List.length_append, List.length_take, List.length_drop, List.length_set]; omega))); (case hs => (first | assumption | (apply Or.inl; assumption) | (apply Or.inr; simp))))
  | (apply h_wrword 1; (case h => assumption); (case e => with_unfolding_all rfl); (case h0 => (first | decide | omega | (simp only [List.length_map, List.length_append, List.length_take, List.length_drop, List.length_set]; omega))); (case h1 => (first | decide | omega | (simp only [List.length_map, List.length_append, List.length_take, List.length_drop, List.length_set]; omega))); (case h2 => (first | decide | omega | (simp only [List.length_map, List.length_append, List.length_take, List.length_drop, List.length_set]; omega))); (case h3 => (first | decide | omega | (simp only [List.length_map, List.length_append, List.length_take, List.length_drop, List.length_set]; omega))); (case hs => (first | assumption | (apply Or.inl; assumption) | (apply Or.inr; simp))))
  | (apply h_wrword 2; (case h => assumption); (case e => with_unfolding_all rfl); (case h0 => (first | decide | omega | (simp only [List.length_map, List.length_append, List.length_take, List.length_drop, List.length_set]; omega))); (case h1 => (first | decide | omega | (simp only [List.length_map, List.length_append, List.length_take, List.length_drop, List.length_set]; omega))); (case h2 => (first | decide | omega | (simp only [List.length_map, List.length_append, List.length_take, List.length_drop, List.length_set]; omega))); (case h3 => (first | decide | omega | (simp only [List.length_map, List.length_append, List.length_take, List.length_drop, List.length_set]; omega))); (case hs => (first | assumption | (apply Or.inl; assumption) | (apply Or.inr; simp))))
  | (apply h_power; (case h0 => (first | decide | omega | (simp only [List.length_map, List.length_append, List.length_take, List.length_drop, List.length_set]; omega))); (case h1 => (first | decide | omega | (simp only [List.length_map, List.length_append, List.length_take, List.length_drop, List.length_set]; omega))))
  | (apply h_bounds; (case h => assumption); (case h0 => (first | decide | omega | (simp only [List.length_map, List.length_append, List.length_take, List.length_drop, List.length_set]; omega))); (case h1 => (first | decide | omega | (simp only [List.length_map, List.length_append, List.length_take, List.length_drop, List.length_set]; omega))))
  | (apply h_sl2 0; (case h => assumption); (case e => with_unfolding_all rfl); (case hi => (first | decide | omega | (simp only [List.length_map, List.length_append, List.length_take, List.length_drop, List.length_set]; omega))); (case hj => (first | decide | omega | (simp only [List.length_map, List.length_append, List.length_take, List.length_drop, List.length_set]; omega))))
  | (apply h_sl2 1; (case h => assumption); (case e => with_unfolding_all rfl); (case hi => (first | decide | omega | (simp only [List.length_map, List.length_append, List.length_take, List.length_drop, List.length_set]; omega))); (case hj => (first | decide | omega | (simp only [List.length_map, List.length_append, List.length_take, List.length_drop, List.length_set]; omega))))
  | (apply h_sl2 2; (case h => assumption); (case e => with_unfolding_all rfl); (case hi => (first | decide | omega | (simp only [List.length_map, List.length_append, List.length_take, List.length_drop, List.length_set]; omega))); (case hj => (first | decide | omega | (simp only [List.length_map, List.length_append, List.length_take, List.length_drop, List.length_set]; omega))))
  | (apply h_slp 0; (case h => assumption); (case e => with_unfolding_all rfl); (case hj => (first | decide | omega | (simp only [List.length_map, List.length_append, List.length_take, List.length_drop, List.length_set]; omega))))
  | (apply h_slp 1; (case h => assumption); (case e => with_unfolding_all rfl); (case hj => (first | decide | omega | (simp only [List.length_map, List.length_append, List.length_take, List.length_drop, List.length_set]; omega))))
  | (apply h_slp 2; (case h => assumption); (case e => with_unfolding_all rfl); (case hj => (first | decide | omega | (simp only [List.length_map, List.length_append, List.length_take, List.length_drop, List.length_set]; omega))))
  | (apply h_sls 0; (case h => assumption); (case e => with_unfolding_all rfl); (case hi => (first | decide | omega | (simp only [List.length_map, List.length_append, List.length_take, List.length_drop, List.length_set]; omega))))
  | (apply h_sls 1; (case h => assumption); (case e => with_unfolding_all rfl); (case hi => (first | decide | omega | (simp only [List.length_map, List.length_append, List.length_take, List.length_drop, List.length_set]; omega))))
  | (apply h_sls 2; (case h => assumption); (case e => with_unfolding_all rfl); (case hi => (first | decide | omega | (simp only [List.length_map, List.length_append, List.length_take, List.length_drop, List.length_set]; omega))))
  | (apply h_reverse 0; (case h => assumption); (case e => with_unfolding_all rfl); (case hs => (first | assumption | (apply Or.inl; assumption) | (apply Or.inr; simp))))
  | (apply h_reverse 1; (case h => assumption); (case e => with_unfolding_all rfl); (case hs => (first | assumption | (apply Or.inl; assumption) | (apply Or.inr; simp))))
  | (apply h_reverse 2; (case h => assumption); (case e => with_unfolding_all rfl); (case hs => (first | assumption | (apply Or.inl; assumption) | (apply Or.inr; simp))))) | with_reducible intro))

def t__law_same (K : PySem.W.Frag) (A : Ad) : TS :=
  (tRet (tOp (mEq K) (tCB (hRepr K) (tCons (mV 0) tNil)) (tCB (hRepr K) (tCons (mV 1) tNil))))
theorem rd__law_same {K : PySem.W.Frag} {A : Ad} {vs : List V} {H : Hp} {Q : VK} {E : XK} (h : sp__law_same K A vs H Q E) : t__law_same K A { nx := fun _ H' => Q .non H', rt := Q } (start ["_law_actual", "_law_due"] vs) H := by
  obtain ⟨x, y, d, n, W, rfl, hx, hy, hs, h1, h2, k⟩ := h
  show t__law_same K A _ [some x, some y] H
  unfold t__law_same
  walk_at "gs"
  refine h_repr hx hs ?_ h1 h2
  walk_at "gs"
  refine h_repr hy hs ?_ h1 h2
  walk_at "gs"
  rw [eqS_t rfl]
  exact k

/-! ### blocks -/
structure Blk where
  u : Nat
  k : Nat
  v : Nat
  n : Nat
  body : List Int
def Blk.fr (r : Blk) : Bool := r.k == 0
def freeB (u : Nat) : Blk := ⟨u, 0, 0, 0, []⟩
def Blk.head (r : Blk) : List Int := [((r.u % 256 : Nat) : Int), ((r.u / 256 : Nat) : Int), (r.k : Int), (r.v : Int)] ++ dg 256 4 (r.n : Int)
def Blk.bb (r : Blk) : List Int := r.head ++ (r.body ++ List.replicate (8 * r.u - 8 - r.body.length) 0)
structure Blk.Ok (r : Blk) : Prop where
  u1 : 1 ≤ r.u
  k1 : r.k < 256
  v1 : r.v < 256
  n1 : r.n < 2 ^ 31
  b1 : r.body.length ≤ 8 * r.u - 8
  by' : Byt r.body
  f1 : r.k = 0 → r = freeB r.u
  f2 : r.k ≠ 0 → r.n ≠ 0 ∧ r.body.length = 8 * r.u - 8
def wr (rs : List Blk) : List Int := rs.flatMap Blk.bb
def unt (rs : List Blk) : Nat := (rs.map (·.u)).sum
def offn (rs : List Blk) (j : Nat) : Nat := 8 * unt (rs.take j)
def BOk (rs : List Blk) : Prop := (∀ r ∈ rs, r.Ok) ∧ unt rs ≤ 100
theorem head_len (r : Blk) : r.head.length = 8 := by
  unfold Blk.head
  rw [List.length_append, dg_len]
  rfl
theorem bb_len {r : Blk} (h : r.Ok) : r.bb.length = 8 * r.u := by
  unfold Blk.bb
  rw [List.length_append, head_len, List.length_append, List.length_replicate]
  have := h.u1
  have := h.b1
  omega
theorem wr_nil : wr [] = [] := rfl
theorem wr_cons (r : Blk) (rs : List Blk) : wr (r :: rs) = r.bb ++ wr rs := rfl
theorem wr_app (a b : List Blk) : wr (a ++ b) = wr a ++ wr b := List.flatMap_append
theorem unt_cons (r : Blk) (rs : List Blk) : unt (r :: rs) = r.u + unt rs := List.sum_cons
theorem unt_app (a b : List Blk) : unt (a ++ b) = unt a + unt b := by
  unfold unt
  rw [List.map_append, List.sum_append]
theorem wr_len : ∀ {rs : List Blk}, (∀ r ∈ rs, r.Ok) → (wr rs).length = 8 * unt rs
  | [], _ => rfl
  | r :: rs, h => by
    rw [wr_cons, List.length_append, bb_len (h r List.mem_cons_self), wr_len fun x hx => h x (List.mem_cons_of_mem _ hx), unt_cons]
    omega
theorem split_at {rs : List Blk} {j : Nat} {r : Blk} (h : rs[j]? = some r) : rs = rs.take j ++ r :: rs.drop (j + 1) := by
  obtain ⟨hj, e⟩ := List.getElem?_eq_some_iff.mp h
  rw [← e, ← List.drop_eq_getElem_cons hj, List.take_append_drop]
theorem unt_le {rs : List Blk} {j : Nat} {r : Blk} (h : rs[j]? = some r) : unt (rs.take j) + r.u ≤ unt rs := by
  have e := congrArg unt (split_at h)
  rw [unt_app, unt_cons] at e
  omega
theorem unt_succ {rs : List Blk} {j : Nat} {r : Blk} (h : rs[j]? = some r) : unt (rs.take (j + 1)) = unt (rs.take j) + r.u := by
  rw [List.take_add_one, h, unt_app]
  show unt (rs.take j) + unt [r] = _
  rw [show unt [r] = r.u from by unfold unt; simp]
theorem BOk.get {rs : List Blk} (h : BOk rs) {j : Nat} {r : Blk} (e : rs[j]? = some r) : r.Ok := h.1 r (List.mem_of_getElem? e)
theorem BOk.u {rs : List Blk} (h : BOk rs) {j : Nat} {r : Blk} (e : rs[j]? = some r) : r.u ≤ 100 := by
  have := unt_le e
  have := h.2
  omega
/-- the bytes at a block -/
theorem wr_at {rs : List Blk} (h : BOk rs) {j : Nat} {r : Blk} (e : rs[j]? = some r) : wr rs = wr (rs.take j) ++ (r.bb ++ wr (rs.drop (j + 1))) ∧ (wr (rs.take j)).length = offn rs j ∧ offn rs j + 8 * r.u ≤ (wr rs).length := by
  have l1 : (wr (rs.take j)).length = offn rs j := wr_len fun x hx => h.1 x (List.mem_of_mem_take hx)
  have e2 : wr rs = wr (rs.take j) ++ (r.bb ++ wr (rs.drop (j + 1))) := by
    have q := congrArg wr (split_at e)
    rw [wr_app, wr_cons] at q
    exact q
  refine ⟨e2, l1, ?_⟩
  rw [e2, List.length_append, List.length_append, l1, bb_len (h.get e)]
  omega
theorem getD_mid {a b c : List Int} {o i : Nat} (ho : a.length = o) (hi : i < b.length) : (a ++ (b ++ c)).getD (o + i) 0 = b.getD i 0 := by
  rw [List.getD_eq_getElem?_getD, List.getElem?_append_right (by omega), List.getElem?_append_left (by omega), show o + i - a.length = i by omega, ← List.getD_eq_getElem?_getD]
theorem bb_get {r : Blk} {i : Nat} (hi : i < 8) : r.bb.getD i 0 = r.head.getD i 0 := by
  unfold Blk.bb
  rw [List.getD_eq_getElem?_getD, List.getElem?_append_left (by rw [head_len]; exact hi), ← List.getD_eq_getElem?_getD]
theorem rd_head {rs : List Blk} (h : BOk rs) {j : Nat} {r : Blk} (e : rs[j]? = some r) {i : Nat} (hi : i < 8) : (wr rs).getD (offn rs j + i) 0 = r.head.getD i 0 := by
  obtain ⟨e1, e2, _⟩ := wr_at h e
  have hu := (h.get e).u1
  rw [e1, getD_mid e2 (by rw [bb_len (h.get e)]; omega), bb_get hi]
theorem seg_two {ds : List Int} {o : Nat} (h : o + 2 ≤ ds.length) : seg ds o 2 = [ds.getD o 0, ds.getD (o + 1) 0] := by
  have q1 := seg_snoc (D := ds) (p := o) (m := 0) (by omega)
  have q2 := seg_snoc (D := ds) (p := o) (m := 1) (by omega)
  rw [← q2, ← q1, seg_zero]
  rfl
theorem seg_four {ds : List Int} {o : Nat} (h : o + 4 ≤ ds.length) : seg ds o 4 = [ds.getD o 0, ds.getD (o + 1) 0, ds.getD (o + 2) 0, ds.getD (o + 3) 0] := by
  have q2 := seg_two (ds := ds) (o := o) (by omega)
  have q3 := seg_snoc (D := ds) (p := o) (m := 2) (by omega)
  have q4 := seg_snoc (D := ds) (p := o) (m := 3) (by omega)
  rw [← q4, ← q3, q2]
  rfl
theorem rd_u {rs : List Blk} (h : BOk rs) {j : Nat} {r : Blk} (e : rs[j]? = some r) : wnum (wr rs) (offn rs j) 2 false = r.u := by
  obtain ⟨_, _, e3⟩ := wr_at h e
  have hu := (h.get e).u1
  have g0 := rd_head h e (i := 0) (by decide)
  have g1 := rd_head h e (i := 1) (by decide)
  unfold wnum ord
  rw [if_neg Bool.false_ne_true, seg_two (by omega), g1, show offn rs j = offn rs j + 0 from rfl, g0]
  show ((r.u % 256 : Nat) : Int) + 256 * (((r.u / 256 : Nat) : Int) + 256 * 0) = r.u
  omega
theorem rd_k {rs : List Blk} (h : BOk rs) {j : Nat} {r : Blk} (e : rs[j]? = some r) : (wr rs).getD (offn rs j + 2) 0 = r.k := rd_head h e (i := 2) (by decide)
theorem rd_v {rs : List Blk} (h : BOk rs) {j : Nat} {r : Blk} (e : rs[j]? = some r) : (wr rs).getD (offn rs j + 3) 0 = r.v := rd_head h e (i := 3) (by decide)
theorem rd_n {rs : List Blk} (h : BOk rs) {j : Nat} {r : Blk} (e : rs[j]? = some r) : wnum (wr rs) (offn rs j + 4) 4 false = r.n := by
  obtain ⟨_, _, e3⟩ := wr_at h e
  have hu := (h.get e).u1
  have hn := (h.get e).n1
  have g4 := rd_head h e (i := 4) (by decide)
  have g5 := rd_head h e (i := 5) (by decide)
  have g6 := rd_head h e (i := 6) (by decide)
  have g7 := rd_head h e (i := 7) (by decide)
  unfold wnum ord
  rw [if_neg Bool.false_ne_true, seg_four (by omega), g4, show offn rs j + 4 + 1 = offn rs j + 5 from rfl, g5, show offn rs j + 4 + 2 = offn rs j + 6 from rfl, g6, show offn rs j + 4 + 3 = offn rs j + 7 from rfl, g7]
  have q := vn_dg (b := 256) (by decide) 4 (r.n : Int)
  rw [Int.emod_eq_of_lt (by omega) (by omega)] at q
  exact q
theorem offn_zero (rs : List Blk) : offn rs 0 = 0 := rfl
theorem offn_succ {rs : List Blk} {j : Nat} {r : Blk} (e : rs[j]? = some r) : offn rs (j + 1) = offn rs j + 8 * r.u := by
  unfold offn
  rw [unt_succ e]
  omega
theorem offn_all (rs : List Blk) : offn rs rs.length = 8 * unt rs := by
  unfold offn
  rw [List.take_of_length_le (Nat.le_refl _)]
theorem len_le : ∀ {rs : List Blk}, (∀ r ∈ rs, r.Ok) → rs.length ≤ unt rs
  | [], _ => Nat.le_refl _
  | r :: rs, h => by
    have := (h r List.mem_cons_self).u1
    have := len_le (rs := rs) fun x hx => h x (List.mem_cons_of_mem _ hx)
    rw [unt_cons, List.length_cons]
    omega
theorem wr_byt : ∀ {rs : List Blk}, (∀ r ∈ rs, r.Ok) → unt rs ≤ 100 → Byt (wr rs)
  | [], _, _ => fun b hb => nomatch hb
  | r :: rs, h, hu => fun b hb => by
    have ro := h r List.mem_cons_self
    rw [unt_cons] at hu
    rcases List.mem_append.mp hb with hb | hb
    · have k1 := ro.k1
      have v1 := ro.v1
      rcases List.mem_append.mp hb with hb | hb
      · rcases List.mem_append.mp hb with hb | hb
        · simp only [List.mem_cons, List.not_mem_nil, or_false] at hb
          rcases hb with rfl | rfl | rfl | rfl <;> omega
        · exact dg_rng (by decide) _ _ b hb
      · rcases List.mem_append.mp hb with hb | hb
        · exact ro.by' b hb
        · rw [List.eq_of_mem_replicate hb]
          omega
    · exact wr_byt (fun x hx => h x (List.mem_cons_of_mem _ hx)) (by omega) b hb
/-- all offsets -/
def offs (rs : List Blk) : List Int := (List.range rs.length).map fun j => (offn rs j : Int)
/-! ### the promises -/
def sp_offsets (K : PySem.W.Frag) (A : Ad) : Sp := fun vs H Q _ => ∃ (a : Addr) (rs : List Blk), vs = [.ref a] ∧ H a = some (.lst ((wr rs).map V.int)) ∧ BOk rs ∧ ∀ p H', Same H H' → H p = none → H' p = some (.lst ((offs rs).map V.int)) → Q (.ref p) H'
def sp_is_free (K : PySem.W.Frag) (A : Ad) : Sp := fun vs H Q _ => ∃ (a : Addr) (rs : List Blk) (j : Nat) (r : Blk), vs = [.ref a, .int (offn rs j)] ∧ H a = some (.lst ((wr rs).map V.int)) ∧ BOk rs ∧ rs[j]? = some r ∧ Q (.bl r.fr) H
def Blk.tup (r : Blk) (o : Nat) : PyData := .tuple [.int o, .int (8 * r.u : Nat), .int r.n, .int r.v]
def sp_block_at (K : PySem.W.Frag) (A : Ad) : Sp := fun vs H Q _ => ∃ (a : Addr) (rs : List Blk) (j : Nat) (r : Blk), vs = [.ref a, .int (offn rs j)] ∧ H a = some (.lst ((wr rs).map V.int)) ∧ BOk rs ∧ rs[j]? = some r ∧ ∀ p H', Same H H' → Im K H' (.ref p) (r.tup (offn rs j)) → Q (.ref p) H'
def tups (rs : List Blk) : List PyData := (List.range rs.length).map fun j => (rs.getD j (freeB 0)).tup (offn rs j)
def sp_blocks (K : PySem.W.Frag) (A : Ad) : Sp := fun vs H Q _ => ∃ (a : Addr) (rs : List Blk), vs = [.ref a] ∧ H a = some (.lst ((wr rs).map V.int)) ∧ BOk rs ∧ ∀ p H', Same H H' → H p = none → EntAt K H' p (.dl (tups rs)) → Q (.ref p) H'
def usedU (rs : List Blk) : Nat := unt (rs.filter fun r => !r.fr)
def sp_used (K : PySem.W.Frag) (A : Ad) : Sp := fun vs H Q _ => ∃ (a : Addr) (rs : List Blk), vs = [.ref a] ∧ H a = some (.lst ((wr rs).map V.int)) ∧ BOk rs ∧ ∀ H', Same H H' → Q (.int (8 * usedU rs : Nat)) H'
def sp_put_free (K : PySem.W.Frag) (A : Ad) : Sp := fun vs H Q _ => ∃ (a : Addr) (ds : List Int) (o u : Nat), vs = [.ref a, .int o, .int u] ∧ H a = some (.lst (ds.map V.int)) ∧ 1 ≤ u ∧ u ≤ 100 ∧ o + 8 * u ≤ ds.length ∧
  ∀ H', KBs H H' [a] → H' a = some (.lst ((putSeg ds o (freeB u).bb).map V.int)) → Q .non H'
section
variable {K : PySem.W.Frag} {A : Ad} {H0 H : Hp} {S : List Addr} {L : List (Addr × Ent)} {I : List (V × PyData)} {Q : VK} {E : XK} {a : Addr} {rs : List Blk} {j : Nat} {r : Blk}
theorem h_offsets (n : Nat) (h : Led K H0 S H L I) (e : L[n]? = some (a, .raw (.lst ((wr rs).map V.int)))) (ok : BOk rs) (k : ∀ p H', (H0 p = none ∨ p ∈ S) → Led K H0 S H' ((p, .raw (.lst ((offs rs).map V.int))) :: L) I → Q (.ref p) H') : sp_offsets K A [.ref a] H Q E :=
  ⟨a, rs, rfl, h.raw n e, ok, fun p H' s np he => k p H' (h.fr np) (h.new s np he)⟩
theorem h_isfree (n : Nat) (h : Led K H0 S H L I) (e : L[n]? = some (a, .raw (.lst ((wr rs).map V.int)))) (ok : BOk rs) (hr : rs[j]? = some r) (k : Q (.bl r.fr) H) : sp_is_free K A [.ref a, .int (offn rs j)] H Q E :=
  ⟨a, rs, j, r, rfl, h.raw n e, ok, hr, k⟩
theorem h_blockat (n : Nat) (h : Led K H0 S H L I) (e : L[n]? = some (a, .raw (.lst ((wr rs).map V.int)))) (ok : BOk rs) (hr : rs[j]? = some r) (k : ∀ p H', Led K H0 S H' L ((.ref p, r.tup (offn rs j)) :: I) → Q (.ref p) H') : sp_block_at K A [.ref a, .int (offn rs j)] H Q E :=
  ⟨a, rs, j, r, rfl, h.raw n e, ok, hr, fun p H' s hi => k p H' ((h.same s).imNew hi)⟩
end
theorem offs_get {rs : List Blk} {j : Nat} {z : Int} (h : (offs rs)[j]? = some z) : ∃ (j' : Nat) (r : Blk), j' = j ∧ z = (offn rs j : Int) ∧ rs[j]? = some r ∧ (tups rs)[j]? = some (r.tup (offn rs j)) := by
  unfold offs at h
  rw [List.getElem?_map] at h
  obtain ⟨i, hi, e⟩ := Option.map_eq_some_iff.mp h
  obtain ⟨hj, e2⟩ := List.getElem?_eq_some_iff.mp hi
  rw [List.getElem_range] at e2
  subst e2
  rw [List.length_range] at hj
  have hr : rs[j]? = some rs[j] := List.getElem?_eq_getElem hj
  refine ⟨j, rs[j], rfl, e.symm, hr, ?_⟩
  unfold tups
  rw [List.getElem?_map, List.getElem?_range hj]
  show some ((rs.getD j (freeB 0)).tup (offn rs j)) = _
  rw [List.getD_eq_getElem?_getD, hr]
  rfl
theorem sum8 (l : List Blk) : (l.map fun r => ((8 * r.u : Nat) : Int)).sum = ((8 * unt l : Nat) : Int) := by
  induction l with
  | nil => rfl
  | cons r l ih =>
    rw [List.map_cons, List.sum_cons, ih, unt_cons]
    omega
theorem putSeg_over {ds s t : List Int} {o : Nat} (h : o + s.length ≤ ds.length) (hst : t.length ≤ s.length) : putSeg (putSeg ds o s) o t = putSeg ds o (t ++ s.drop t.length) := by
  have l2 : (t ++ s.drop t.length).length = s.length := by rw [List.length_append, List.length_drop]; omega
  refine List.ext_getElem? fun j => ?_
  rw [putSeg_get (by rw [putSeg_len h]; omega), putSeg_get h, putSeg_get (by rw [l2]; exact h), l2]
  by_cases h1 : j < o
  · rw [if_pos h1, if_pos h1, if_pos h1]
  · rw [if_neg h1, if_neg h1, if_neg h1]
    by_cases h2 : j < o + t.length
    · rw [if_pos h2, if_pos (by omega), List.getElem?_append_left (by omega)]
    · rw [if_neg h2]
      by_cases h3 : j < o + s.length
      · rw [if_pos h3, if_pos h3, List.getElem?_append_right (by omega), List.getElem?_drop, show t.length + (j - o - t.length) = j - o by omega]
      · rw [if_neg h3, if_neg h3]
theorem dg_two (u : Nat) (h : u < 65536) : dg 256 2 (u : Int) = [((u % 256 : Nat) : Int), ((u / 256 : Nat) : Int)] := by
  show [(u : Int) % 256, (u : Int) / 256 % 256] = _
  have e : (u : Int) / 256 % 256 = ((u / 256 : Nat) : Int) := by omega
  rw [e]
  rfl
theorem freeB_bb {u : Nat} (h1 : 1 ≤ u) (h2 : u < 65536) : (freeB u).bb = dg 256 2 (u : Int) ++ List.replicate (8 * u - 2) 0 := by
  rw [dg_two u h2]
  have e : dg 256 4 (((freeB u).n : Nat) : Int) = [0, 0, 0, 0] := by
    show dg 256 4 ((0 : Nat) : Int) = _
    decide
  unfold Blk.bb Blk.head
  rw [e]
  show ([((u % 256 : Nat) : Int), ((u / 256 : Nat) : Int), 0, 0] ++ [0, 0, 0, 0]) ++ ([] ++ List.replicate (8 * u - 8 - 0) 0) = _
  rw [show 8 * u - 2 = (8 * u - 8 - 0) + 1 + 1 + 1 + 1 + 1 + 1 by omega]
  rfl
theorem freeB_ok {u : Nat} (h1 : 1 ≤ u) : (freeB u).Ok := ⟨h1, by show 0 < 256; decide, by show 0 < 256; decide, by show 0 < 2 ^ 31; decide, Nat.zero_le _, fun b hb => (nomatch hb), fun _ => rfl, fun z => absurd rfl z⟩
theorem freeB_len {u : Nat} (h1 : 1 ≤ u) : (freeB u).bb.length = 8 * u := bb_len (freeB_ok h1)

def t_offsets (K : PySem.W.Frag) (A : Ad) : TS :=
  (tSeq (tAsg (tLst tNil) (gName 1))
  (tSeq (tAsg (tC (.int 0)) (gName 2))
  (tSeq (tWhile (mTest (tOp mLt (mV 2) (tCB (hLen K) (tCons (mV 0) tNil))))
    (tSeq (tDrop (tBM K "list" rAppend (mV 1) (tCons (mV 2) tNil)))
  (mAug 2 (tOp mMul (tC (.int 8)) (tCall (sp_read_word K A) [] E0 (tCons (mV 0) (tCons (mV 2) (tCons (tC (.int 2)) tNil))))) mIAdd)))
  (tRet (mV 1)))))
theorem rd_offsets {K : PySem.W.Frag} {A : Ad} {vs : List V} {H : Hp} {Q : VK} {E : XK} (h : sp_offsets K A vs H Q E) : t_offsets K A { nx := fun _ H' => Q .non H', rt := Q } (start ["data", "found", "offset"] vs) H := by
  obtain ⟨a, rs, rfl, ha, ok, k⟩ := h
  show t_offsets K A _ [some (.ref a), none, none] H
  unfold t_offsets
  have hL : Led K H [] H [(a, .raw (.lst ((wr rs).map V.int)))] [] := Led.mk1 ha
  have hlen := wr_len ok.1
  have hu := ok.2
  have hll := len_le ok.1
  walk_at "gs"
  rename_i p H1 np h1
  refine lpW (fun m σ H2 => ∃ j : Nat, j ≤ rs.length ∧ m = rs.length - j ∧ σ = [some (.ref a), some (.ref p), some (.int (offn rs j))] ∧ Led K H [] H2 [(p, .raw (.lst ((((List.range j).map fun j => (offn rs j : Int))).map V.int))), (a, .raw (.lst ((wr rs).map V.int)))] []) rs.length ⟨0, Nat.zero_le _, rfl, rfl, h1⟩ ?_
  clear h1 hL
  rintro m σ H2 ⟨j, hj, rfl, rfl, h2⟩
  walk_at "gs"
  rw [List.length_map, hlen]
  refine h_itb (b := decide ((offn rs j : Int) < (8 * unt rs : Nat))) (fun hc => ?_) (fun hc => ?_)
  · have hc := of_decide_eq_true hc
    have hj2 : j < rs.length := by
      rcases Nat.lt_or_ge j rs.length with z | z
      · exact z
      · have e : j = rs.length := by omega
        subst e
        rw [offn_all] at hc
        omega
    have hr : rs[j]? = some rs[j] := List.getElem?_eq_getElem hj2
    generalize rs[j] = r at hr
    obtain ⟨_, _, w3⟩ := wr_at ok hr
    have hu1 := (ok.get hr).u1
    refine ⟨_, fun σ' H' z => ⟨rs.length - (j + 1), by omega, z⟩, ?_⟩
    walk_at "gs"
    refine h_appI 0 h2 rfl np (by rw [List.length_map, List.length_range, sizeLine_eq]; omega) fun H3 h3 => ?_
    walk_at "gs"
    rw [show ((offn rs j : Int)).toNat = offn rs j from Int.toNat_natCast _, show (Int.toNat 2) = 2 from rfl, rd_u ok hr]
    refine ⟨j + 1, hj2, rfl, ?_, ?_⟩
    · rw [offn_succ hr]
      exact congrArg (fun z : Int => [some (V.ref a), some (V.ref p), some (.int z)]) (by omega)
    · rw [List.range_succ, List.map_append]
      exact h3
  · have hc := of_decide_eq_false hc
    have hj2 : j = rs.length := by
      rcases Nat.lt_or_ge j rs.length with z | z
      · have hr : rs[j]? = some rs[j] := List.getElem?_eq_getElem z
        have := unt_le hr
        have := (ok.get hr).u1
        unfold offn at hc
        omega
      · omega
    subst hj2
    walk_at "gs"
    exact k p H2 (KBs.same h2.kp) (np.elim id fun z => nomatch z) (h2.raw 0 rfl)
def t_is_free (K : PySem.W.Frag) (A : Ad) : TS :=
  (tRet (tOp (mEq K) (tOp (rIx K) (mV 0) (tOp (mAdd K) (mV 1) (tC (.int 2)))) (tC (.int 0))))
theorem rd_is_free {K : PySem.W.Frag} {A : Ad} {vs : List V} {H : Hp} {Q : VK} {E : XK} (h : sp_is_free K A vs H Q E) : t_is_free K A { nx := fun _ H' => Q .non H', rt := Q } (start ["data", "offset"] vs) H := by
  obtain ⟨a, rs, j, r, rfl, ha, ok, hr, k⟩ := h
  show t_is_free K A _ [some (.ref a), some (.int (offn rs j))] H
  unfold t_is_free
  have hL : Led K H [] H [(a, .raw (.lst ((wr rs).map V.int)))] [] := Led.mk1 ha
  obtain ⟨_, _, w3⟩ := wr_at ok hr
  have hu1 := (ok.get hr).u1
  walk_at "gs"
  refine h_ixI 0 hL rfl (by omega) (by omega) ?_
  rw [show ((offn rs j : Int) + 2).toNat = offn rs j + 2 by omega, rd_k ok hr]
  walk_at "gs"
  have e : decide ((r.k : Int) = 0) = r.fr := by
    unfold Blk.fr
    cases hk : r.k with
    | zero => rfl
    | succ n => exact decide_eq_false (by omega)
  rw [e]
  exact k
def t_block_at (K : PySem.W.Frag) (A : Ad) : TS :=
  (tRet (tTup (tCons (mV 1) (tCons (tOp mMul (tC (.int 8)) (tCall (sp_read_word K A) [] E0 (tCons (mV 0) (tCons (mV 1) (tCons (tC (.int 2)) tNil))))) (tCons (tCall (sp_read_word K A) [] E0 (tCons (mV 0) (tCons (tOp (mAdd K) (mV 1) (tC (.int 4))) (tCons (tC (.int 4)) tNil)))) (tCons (tOp (rIx K) (mV 0) (tOp (mAdd K) (mV 1) (tC (.int 3)))) tNil))))))
theorem rd_block_at {K : PySem.W.Frag} {A : Ad} {vs : List V} {H : Hp} {Q : VK} {E : XK} (h : sp_block_at K A vs H Q E) : t_block_at K A { nx := fun _ H' => Q .non H', rt := Q } (start ["data", "offset"] vs) H := by
  obtain ⟨a, rs, j, r, rfl, ha, ok, hr, k⟩ := h
  show t_block_at K A _ [some (.ref a), some (.int (offn rs j))] H
  unfold t_block_at
  have hL : Led K H [] H [(a, .raw (.lst ((wr rs).map V.int)))] [] := Led.mk1 ha
  obtain ⟨_, _, w3⟩ := wr_at ok hr
  have hu1 := (ok.get hr).u1
  walk_at "gs"
  rw [show ((offn rs j : Int)).toNat = offn rs j from Int.toNat_natCast _, show (Int.toNat 2) = 2 from rfl, rd_u ok hr]
  walk_at "gs"
  rw [show ((offn rs j : Int) + 4).toNat = offn rs j + 4 by omega, show (Int.toNat 4) = 4 from rfl, rd_n ok hr]
  refine h_ixI 0 hL rfl (by omega) (by omega) ?_
  rw [show ((offn rs j : Int) + 3).toNat = offn rs j + 3 by omega, rd_v ok hr]
  walk_at "gs"
  rename_i p H1 h1
  refine k p H1 (KBs.same h1.kp) ?_
  exact h1.im 0 _ _ rfl
def t_blocks (K : PySem.W.Frag) (A : Ad) : TS :=
  (tRet (tLc (jL K (tCall (sp_offsets K A) [] E0 (tCons (mV 0) tNil))) (gName 1) tYes (tCall (sp_block_at K A) [] E0 (tCons (mV 0) (tCons (mV 1) tNil))) [1]))
theorem rd_blocks {K : PySem.W.Frag} {A : Ad} {vs : List V} {H : Hp} {Q : VK} {E : XK} (h : sp_blocks K A vs H Q E) : t_blocks K A { nx := fun _ H' => Q .non H', rt := Q } (start ["data", "offset"] vs) H := by
  obtain ⟨a, rs, rfl, ha, ok, k⟩ := h
  show t_blocks K A _ [some (.ref a), none] H
  unfold t_blocks
  have hL : Led K H [] H [(a, .raw (.lst ((wr rs).map V.int)))] [] := Led.mk1 ha
  have hll := len_le ok.1
  have hu := ok.2
  walk_at "gs"
  refine h_offsets 0 hL rfl ok fun q H1 nq h1 => ?_
  walk_at "gs"
  refine lcL h1 (fun p i H2 => (H p = none ∨ p ∈ []) ∧ Led K H [] H2 [(p, .dl ((tups rs).take i)), (q, .raw (.lst ((offs rs).map V.int))), (a, .raw (.lst ((wr rs).map V.int)))] [])
    (fun p H2 np h2 => ⟨np, h2.toD 0 rfl .nil⟩) (fun p i H2 _ ⟨_, h2⟩ => h2.sqL 1 rfl) ?_ ?_
  · rintro p i x H2 hx ⟨np, h2⟩
    obtain ⟨z, hz, rfl⟩ := map_get hx
    obtain ⟨j, r, rfl, rfl, hr, ht⟩ := offs_get hz
    walk_at "gs"
    refine h_blockat 2 h2 rfl ok hr fun t H3 h3 => ?_
    obtain ⟨acc, a1, a2, a3⟩ := h_accD (y := .ref t) 0 h3 rfl (h3.im 0 _ _ rfl) np (by rw [List.length_take, sizeLine_eq]; unfold tups; rw [List.length_map, List.length_range]; omega)
    refine ⟨acc, a1, a2, np, ?_⟩
    rw [List.take_add_one, ht]
    exact a3.tl
  · rintro p H2 ⟨np, h2⟩
    rw [List.length_map] at h2
    have e : (tups rs).take (offs rs).length = tups rs := List.take_of_length_le (by unfold tups offs; rw [List.length_map, List.length_map]; exact Nat.le_refl _)
    rw [e] at h2
    exact k p H2 (KBs.same h2.kp) (np.elim id fun z => nomatch z) (h2.at_ 0 _ _ rfl)
def t_used (K : PySem.W.Frag) (A : Ad) : TS :=
  (tRet (tCB (rSum K) (tCons (tLc (jL K (tCall (sp_offsets K A) [] E0 (tCons (mV 0) tNil))) (gName 1) (tNot (mTr K (tCall (sp_is_free K A) [] E0 (tCons (mV 0) (tCons (mV 1) tNil))))) (tOp mMul (tC (.int 8)) (tCall (sp_read_word K A) [] E0 (tCons (mV 0) (tCons (mV 1) (tCons (tC (.int 2)) tNil))))) [1]) tNil)))
theorem rd_used {K : PySem.W.Frag} {A : Ad} {vs : List V} {H : Hp} {Q : VK} {E : XK} (h : sp_used K A vs H Q E) : t_used K A { nx := fun _ H' => Q .non H', rt := Q } (start ["data", "offset"] vs) H := by
  obtain ⟨a, rs, rfl, ha, ok, k⟩ := h
  show t_used K A _ [some (.ref a), none] H
  unfold t_used
  have hL : Led K H [] H [(a, .raw (.lst ((wr rs).map V.int)))] [] := Led.mk1 ha
  have hll := len_le ok.1
  have hu := ok.2
  walk_at "gs"
  refine h_offsets 0 hL rfl ok fun q H1 nq h1 => ?_
  walk_at "gs"
  refine lcL h1 (fun p i H2 => (H p = none ∨ p ∈ []) ∧ Led K H [] H2 [(p, .raw (.lst ((((rs.take i).filter fun r => !r.fr).map fun r => ((8 * r.u : Nat) : Int)).map V.int))), (q, .raw (.lst ((offs rs).map V.int))), (a, .raw (.lst ((wr rs).map V.int)))] [])
    (fun p H2 np h2 => ⟨np, h2⟩) (fun p i H2 _ ⟨_, h2⟩ => h2.sqL 1 rfl) ?_ ?_
  · rintro p i x H2 hx ⟨np, h2⟩
    obtain ⟨z, hz, rfl⟩ := map_get hx
    obtain ⟨j, r, rfl, rfl, hr, ht⟩ := offs_get hz
    have et : rs.take (j + 1) = rs.take j ++ [r] := by rw [List.take_add_one, hr]; rfl
    walk_at "gs"
    refine h_isfree 2 h2 rfl ok hr ?_
    obtain ⟨_, _, w3⟩ := wr_at ok hr
    have hu1 := (ok.get hr).u1
    walk_at "gs"
    refine h_itb (fun hb => ?_) (fun hb => ?_)
    · walk_at "gs"
      rw [show ((offn rs j : Int)).toNat = offn rs j from Int.toNat_natCast _, show (Int.toNat 2) = 2 from rfl, rd_u ok hr]
      walk_at "gs"
      obtain ⟨acc, a1, a2, a3⟩ := h_accL (y := .int (8 * (r.u : Int))) 0 h2 rfl np (by rw [List.length_map, List.length_map, sizeLine_eq]; have := List.length_filter_le (fun r : Blk => !r.fr) (rs.take j); rw [List.length_take] at this; omega)
      refine ⟨acc, a1, a2, np, ?_⟩
      rw [et, List.filter_append, show [r].filter (fun r => !r.fr) = [r] by rw [List.filter_cons_of_pos (by exact hb)]; rfl, List.map_append]
      rw [map_snoc] at a3
      have e8 : ((8 * r.u : Nat) : Int) = 8 * (r.u : Int) := by omega
      show Led K H [] _ [(p, .raw (.lst ((((rs.take j).filter fun r => !r.fr).map (fun r => ((8 * r.u : Nat) : Int)) ++ [((8 * r.u : Nat) : Int)]).map V.int))), _, _] []
      rw [e8]
      exact a3
    · rw [et, List.filter_append, show [r].filter (fun r => !r.fr) = [] by rw [List.filter_cons_of_neg (by rw [hb]; exact Bool.false_ne_true)]; rfl, List.append_nil]
      exact ⟨np, h2⟩
  · rintro p H2 ⟨np, h2⟩
    refine ⟨p, _, rfl, h2.sqL 0 rfl, ?_⟩
    have e : rs.take ((offs rs).map V.int).length = rs := List.take_of_length_le (by unfold offs; rw [List.length_map, List.length_map, List.length_range]; exact Nat.le_refl _)
    rw [e, sum8]
    exact k H2 (KBs.same h2.kp)
def t_put_free (K : PySem.W.Frag) (A : Ad) : TS :=
  (tSeq (tFor (jR1 (tCons (tOp mMul (mV 2) (tC (.int 8))) tNil)) (gName 3)
    (tAsg (tC (.int 0)) (gSub (mV 0) (tOp (mAdd K) (mV 1) (mV 3)) rSetL)))
  (tDrop (tCall (sp_write_word K A) [] E0 (tCons (mV 0) (tCons (mV 1) (tCons (tC (.int 2)) (tCons (mV 2) tNil)))))))
theorem rd_put_free {K : PySem.W.Frag} {A : Ad} {vs : List V} {H : Hp} {Q : VK} {E : XK} (h : sp_put_free K A vs H Q E) : t_put_free K A { nx := fun _ H' => Q .non H', rt := Q } (start ["data", "offset", "units", "at"] vs) H := by
  obtain ⟨a, ds, o, u, rfl, ha, u1, u2, ho, k⟩ := h
  show t_put_free K A _ [some (.ref a), some (.int o), some (.int u), none] H
  unfold t_put_free
  have hL : Led K H [a] H [(a, .raw (.lst ((putSeg ds o ((List.replicate (8 * u) 0).take 0)).map V.int)))] [] := by rw [List.take_zero, putSeg_nil]; exact Led.mk1 ha
  walk_at "gs"
  refine lpR (fun t σ H2 => ∃ y : Option V, σ = [some (.ref a), some (.int o), some (.int u), y] ∧ Led K H [a] H2 [(a, .raw (.lst ((putSeg ds o ((List.replicate (8 * u) 0).take t)).map V.int)))] []) ⟨_, rfl, hL⟩ ?_ ?_
  · clear hL
    rintro t σ H2 ht ⟨y, rfl, h2⟩
    have ht : t < 8 * u := by omega
    have pl : (putSeg ds o ((List.replicate (8 * u) (0 : Int)).take t)).length = ds.length := putSeg_len (by rw [List.length_take, List.length_replicate]; omega)
    walk_at "gs"
    refine h_setI 0 h2 rfl (.inr (by simp)) (by omega) (by rw [pl]; omega) fun H3 h3 => ?_
    refine ⟨_, rfl, ?_⟩
    have e := putSeg_snoc (D := ds) (bs := List.replicate (8 * u) (0 : Int)) (p := o) (i := t) (by rw [List.length_replicate]; omega) (by rw [List.length_replicate]; exact ht)
    rw [show (List.replicate (8 * u) (0 : Int)).getD t 0 = 0 by rw [List.getD_eq_getElem?_getD, List.getElem?_replicate, if_pos ht]; rfl] at e
    rw [show ((o : Int) + (0 + (t : Int))).toNat = o + t by omega, e] at h3
    exact h3
  · clear hL
    rintro σ H2 ⟨y, rfl, h2⟩
    rw [show ((u : Int) * 8).toNat = 8 * u by omega, List.take_of_length_le (by rw [List.length_replicate]; exact Nat.le_refl _)] at h2
    have pl : (putSeg ds o (List.replicate (8 * u) (0 : Int))).length = ds.length := putSeg_len (by rw [List.length_replicate]; omega)
    walk_at "gs"
    rename_i H3 h3
    refine k H3 h3.kp ?_
    have e : put (putSeg ds o (List.replicate (8 * u) 0)) ((o : Int)).toNat (Int.toNat 2) false u = putSeg ds o (freeB u).bb := by
      rw [Int.toNat_natCast]
      show putSeg (putSeg ds o (List.replicate (8 * u) 0)) o (dg 256 2 (u : Int)) = _
      rw [putSeg_over (by rw [List.length_replicate]; omega) (by rw [dg_len, List.length_replicate]; omega), dg_len, List.drop_replicate, freeB_bb u1 (by omega)]
    rw [← e]
    exact h3.raw 0 rfl

theorem putSeg_mid {a b c s : List Int} {o : Nat} (ho : a.length = o) (h : s.length = b.length) : putSeg (a ++ (b ++ c)) o s = a ++ (s ++ c) := by
  unfold putSeg
  rw [List.take_left' ho, h, ← List.append_assoc a b c, List.drop_left' (by rw [List.length_append, ho]), List.append_assoc]
def jstep (acc : List Blk) (r : Blk) : List Blk := match acc.getLast? with
  | some l => if r.fr = true ∧ l.fr = true then acc.dropLast ++ [freeB (l.u + r.u)] else acc ++ [r]
  | none => acc ++ [r]
def joined (rs : List Blk) : List Blk := rs.foldl jstep []
theorem unt_one (r : Blk) : unt [r] = r.u := by unfold unt; simp
theorem getLast_split {acc : List Blk} {l : Blk} (h : acc.getLast? = some l) : acc = acc.dropLast ++ [l] := by
  cases acc with
  | nil => exact nomatch h
  | cons a t =>
    have q := List.dropLast_concat_getLast (List.cons_ne_nil a t)
    have e : (a :: t).getLast (List.cons_ne_nil a t) = l := by
      have z := h
      rw [List.getLast?_eq_some_getLast (List.cons_ne_nil a t)] at z
      exact Option.some.inj z
    rw [e] at q
    exact q.symm
theorem jl_aux {J C : List Blk} {l : Blk} (h : J.getLast? = some l) : (J ++ C)[J.length - 1]? = some l ∧ (J ++ C).take (J.length - 1) = J.dropLast := by
  have e := getLast_split h
  generalize J.dropLast = t at e
  subst e
  rw [List.length_append, List.length_singleton, Nat.add_sub_cancel, List.append_assoc]
  exact ⟨by rw [List.getElem?_append_right (Nat.le_refl _), Nat.sub_self]; rfl, List.take_left' rfl⟩
theorem jstep_unt (acc : List Blk) (r : Blk) : unt (jstep acc r) = unt acc + r.u := by
  unfold jstep
  split
  · rename_i l hl
    split
    · have e := congrArg unt (getLast_split hl)
      rw [unt_app, unt_one] at e
      rw [unt_app, unt_one, e]
      show _ + (l.u + r.u) = _
      omega
    · rw [unt_app, unt_one]
  · rw [unt_app, unt_one]
theorem jstep_ok {acc : List Blk} {r : Blk} (h : ∀ x ∈ acc, x.Ok) (hr : r.Ok) : ∀ x ∈ jstep acc r, x.Ok := fun x hx => by
  unfold jstep at hx
  split at hx
  · rename_i l hl
    split at hx
    · rcases List.mem_append.mp hx with hx | hx
      · exact h x ((List.dropLast_sublist acc).subset hx)
      · cases List.mem_singleton.mp hx
        exact freeB_ok (by have := hr.u1; omega)
    · rcases List.mem_append.mp hx with hx | hx
      · exact h x hx
      · cases List.mem_singleton.mp hx
        exact hr
  · rcases List.mem_append.mp hx with hx | hx
    · exact h x hx
    · cases List.mem_singleton.mp hx
      exact hr
theorem joined_snoc {rs : List Blk} {i : Nat} {r : Blk} (h : rs[i]? = some r) : joined (rs.take (i + 1)) = jstep (joined (rs.take i)) r := by
  unfold joined
  rw [List.take_add_one, h, List.foldl_append]
  rfl
theorem joined_inv {rs : List Blk} (ok : BOk rs) : ∀ i, i ≤ rs.length → (∀ x ∈ joined (rs.take i), x.Ok) ∧ unt (joined (rs.take i)) = unt (rs.take i)
  | 0, _ => ⟨fun x hx => (nomatch hx), rfl⟩
  | i + 1, hi => by
    obtain ⟨h1, h2⟩ := joined_inv ok i (by omega)
    have hr : rs[i]? = some rs[i] := List.getElem?_eq_getElem (by omega)
    rw [joined_snoc hr]
    exact ⟨jstep_ok h1 (ok.get hr), by rw [jstep_unt, h2, unt_succ hr]⟩
theorem joined_ok {rs : List Blk} (ok : BOk rs) : BOk (joined rs) := by
  have h := joined_inv ok rs.length (Nat.le_refl _)
  rw [List.take_of_length_le (Nat.le_refl _)] at h
  exact ⟨h.1, by rw [h.2]; exact ok.2⟩
/-- the blocks while they are joined -/
def jmid (rs : List Blk) (i : Nat) : List Blk := joined (rs.take i) ++ rs.drop i
theorem jmid_ok {rs : List Blk} (ok : BOk rs) {i : Nat} (hi : i ≤ rs.length) : BOk (jmid rs i) := by
  obtain ⟨h1, h2⟩ := joined_inv ok i hi
  refine ⟨fun x hx => ?_, ?_⟩
  · rcases List.mem_append.mp hx with hx | hx
    · exact h1 x hx
    · exact ok.1 x (List.mem_of_mem_drop hx)
  · unfold jmid
    rw [unt_app, h2, ← unt_app, List.take_append_drop]
    exact ok.2
theorem jmid_at {rs : List Blk} (ok : BOk rs) {i : Nat} {r : Blk} (h : rs[i]? = some r) : (jmid rs i)[(joined (rs.take i)).length]? = some r ∧ offn (jmid rs i) (joined (rs.take i)).length = offn rs i := by
  obtain ⟨hi, _⟩ := List.getElem?_eq_some_iff.mp h
  refine ⟨?_, ?_⟩
  · unfold jmid
    rw [List.getElem?_append_right (Nat.le_refl _), Nat.sub_self, List.getElem?_drop, Nat.add_zero]
    exact h
  · unfold offn jmid
    rw [List.take_left' rfl, (joined_inv ok i (by omega)).2]
theorem jmid_last {rs : List Blk} {i : Nat} {l : Blk} (h : (joined (rs.take i)).getLast? = some l) : (jmid rs i)[(joined (rs.take i)).length - 1]? = some l ∧ offn (jmid rs i) ((joined (rs.take i)).length - 1) = 8 * unt (joined (rs.take i)).dropLast := by
  obtain ⟨h1, h2⟩ := jl_aux (C := rs.drop i) h
  refine ⟨h1, ?_⟩
  unfold offn jmid
  rw [h2]
theorem jmid_zero (rs : List Blk) : jmid rs 0 = rs := rfl
theorem jmid_all (rs : List Blk) : jmid rs rs.length = joined rs := by
  unfold jmid
  rw [List.take_of_length_le (Nat.le_refl _), List.drop_length, List.append_nil]
theorem jmid_keep {rs : List Blk} {i : Nat} {r : Blk} (h : rs[i]? = some r) (hj : jstep (joined (rs.take i)) r = joined (rs.take i) ++ [r]) : jmid rs (i + 1) = jmid rs i := by
  obtain ⟨hi, e⟩ := List.getElem?_eq_some_iff.mp h
  unfold jmid
  rw [joined_snoc h, hj, List.append_assoc, List.singleton_append, ← e, ← List.drop_eq_getElem_cons hi]
/-- two free blocks become one -/
theorem jmid_join {rs : List Blk} (ok : BOk rs) {i : Nat} {r l : Blk} (h : rs[i]? = some r) (hl : (joined (rs.take i)).getLast? = some l) (hr : r.fr = true) (hlf : l.fr = true) :
    putSeg (wr (jmid rs i)) (8 * unt (joined (rs.take i)).dropLast) (freeB (l.u + r.u)).bb = wr (jmid rs (i + 1)) := by
  obtain ⟨hi, e⟩ := List.getElem?_eq_some_iff.mp h
  obtain ⟨o1, _⟩ := joined_inv ok i (by omega)
  have el := getLast_split hl
  have ro := ok.get h
  have lo : l.Ok := o1 l (by rw [el]; exact List.mem_append_right _ (List.mem_singleton.mpr rfl))
  have e1 : wr (jmid rs i) = wr (joined (rs.take i)).dropLast ++ ((l.bb ++ r.bb) ++ wr (rs.drop (i + 1))) := by
    unfold jmid
    rw [List.drop_eq_getElem_cons hi, e, wr_app, el, wr_app, wr_cons, wr_cons, wr_nil, List.append_nil, ← el, List.append_assoc, List.append_assoc]
  have e2 : jmid rs (i + 1) = (joined (rs.take i)).dropLast ++ (freeB (l.u + r.u) :: rs.drop (i + 1)) := by
    unfold jmid
    rw [joined_snoc h]
    unfold jstep
    rw [hl]
    show (if r.fr = true ∧ l.fr = true then _ else _) ++ _ = _
    rw [if_pos ⟨hr, hlf⟩, List.append_assoc]
    rfl
  rw [e1, e2, wr_app, wr_cons]
  refine putSeg_mid (wr_len fun x hx => o1 x ((List.dropLast_sublist _).subset hx)) ?_
  rw [freeB_len (by have := ro.u1; omega), List.length_append, bb_len lo, bb_len ro]
  omega
def sp_join_free (K : PySem.W.Frag) (A : Ad) : Sp := fun vs H Q _ => ∃ (a : Addr) (rs : List Blk), vs = [.ref a] ∧ H a = some (.lst ((wr rs).map V.int)) ∧ BOk rs ∧ ∀ H', KBs H H' [a] → H' a = some (.lst ((wr (joined rs)).map V.int)) → Q .non H'
def place (rs : List Blk) (m : Nat) : Option Nat := rs.findIdx? fun r => r.fr && decide (m ≤ r.u)
def oO (rs : List Blk) : Option Nat → V | some j => .int (offn rs j) | none => .non
def sp_free_place (K : PySem.W.Frag) (A : Ad) : Sp := fun vs H Q _ => ∃ (a : Addr) (rs : List Blk) (m : Nat), vs = [.ref a, .int m] ∧ H a = some (.lst ((wr rs).map V.int)) ∧ BOk rs ∧ ∀ H', Same H H' → Q (oO rs (place rs m)) H'
def found (rs : List Blk) (n v : Int) : Option Nat := rs.findIdx? fun r => !r.fr && (decide ((r.n : Int) = n) && decide ((r.v : Int) = v))
def sp_find_block (K : PySem.W.Frag) (A : Ad) : Sp := fun vs H Q _ => ∃ (a : Addr) (rs : List Blk) (n v : Int), vs = [.ref a, .int n, .int v] ∧ H a = some (.lst ((wr rs).map V.int)) ∧ BOk rs ∧ ∀ H', Same H H' → Q (oO rs (found rs n v)) H'
section
variable {K : PySem.W.Frag} {A : Ad} {H0 H : Hp} {S : List Addr} {L : List (Addr × Ent)} {I : List (V × PyData)} {Q : VK} {E : XK} {a : Addr} {rs : List Blk} {j : Nat} {r : Blk}
theorem h_putfree {ds : List Int} {o u : Nat} (n : Nat) (h : Led K H0 S H L I) (e : L[n]? = some (a, .raw (.lst (ds.map V.int)))) (u1 : 1 ≤ u) (u2 : u ≤ 100) (ho : o + 8 * u ≤ ds.length) (hs : H0 a = none ∨ a ∈ S) (k : ∀ H', Led K H0 S H' (L.set n (a, .raw (.lst ((putSeg ds o (freeB u).bb).map V.int)))) I → Q .non H') : sp_put_free K A [.ref a, .int o, .int u] H Q E :=
  ⟨a, ds, o, u, rfl, h.raw n e, u1, u2, ho, fun H' kb he => k H' (h.wr (e' := .raw (.lst ((putSeg ds o (freeB u).bb).map V.int))) n e kb (h.raw n e) rfl he hs)⟩
end
def lastV (rs : List Blk) (i : Nat) : V := match (joined (rs.take i)).getLast? with
  | some l => if l.fr = true then .int (8 * unt (joined (rs.take i)).dropLast : Nat) else .non
  | none => .non
theorem getLast_snoc (acc : List Blk) (r : Blk) : (acc ++ [r]).getLast? = some r ∧ (acc ++ [r]).dropLast = acc := by
  constructor <;> simp
theorem lastV_keep {rs : List Blk} {i : Nat} {r : Blk} (h : rs[i]? = some r) (hj : jstep (joined (rs.take i)) r = joined (rs.take i) ++ [r]) : lastV rs (i + 1) = if r.fr = true then .int (8 * unt (joined (rs.take i)) : Nat) else .non := by
  unfold lastV
  rw [joined_snoc h, hj, (getLast_snoc _ r).1, (getLast_snoc _ r).2]
theorem jstep_used {acc : List Blk} {r : Blk} (h : r.fr = false) : jstep acc r = acc ++ [r] := by
  unfold jstep
  split
  · rw [if_neg fun z => by rw [h] at z; exact nomatch z.1]
  · rfl
theorem jstep_none {acc : List Blk} {r : Blk} (h : acc.getLast? = none) : jstep acc r = acc ++ [r] := by
  unfold jstep
  rw [h]
theorem jstep_last {acc : List Blk} {r l : Blk} (h : acc.getLast? = some l) (hl : l.fr = false) : jstep acc r = acc ++ [r] := by
  unfold jstep
  rw [h]
  exact if_neg fun z => by rw [hl] at z; exact nomatch z.2
theorem jstep_join {acc : List Blk} {r l : Blk} (h : acc.getLast? = some l) (hr : r.fr = true) (hl : l.fr = true) : jstep acc r = acc.dropLast ++ [freeB (l.u + r.u)] := by
  unfold jstep
  rw [h]
  exact if_pos ⟨hr, hl⟩
theorem unt_joined {rs : List Blk} (ok : BOk rs) {i : Nat} (hi : i ≤ rs.length) : 8 * unt (joined (rs.take i)) = offn rs i := by
  rw [(joined_inv ok i hi).2]
  rfl
section
variable {K : PySem.W.Frag} {A : Ad} {H0 H : Hp} {S : List Addr} {L : List (Addr × Ent)} {I : List (V × PyData)} {Q : VK} {E : XK} {a : Addr} {rs : List Blk} {j : Nat} {r : Blk}
theorem h_isfreeO {o : Nat} (n : Nat) (h : Led K H0 S H L I) (e : L[n]? = some (a, .raw (.lst ((wr rs).map V.int)))) (ok : BOk rs) (hr : rs[j]? = some r) (ho : offn rs j = o) (k : Q (.bl r.fr) H) : sp_is_free K A [.ref a, .int o] H Q E := by
  subst ho
  exact h_isfree n h e ok hr k
theorem h_rdu {o : Nat} (n : Nat) (h : Led K H0 S H L I) (e : L[n]? = some (a, .raw (.lst ((wr rs).map V.int)))) (ok : BOk rs) (hr : rs[j]? = some r) (ho : offn rs j = o) (k : Q (.int r.u) H) : sp_read_word K A [.ref a, .int o, .int 2] H Q E := by
  subst ho
  have w3 := (wr_at ok hr).2.2
  have u1 := (ok.get hr).u1
  refine h_rdword n h e (by omega) (by decide) (by decide) (by omega) ?_
  rw [show ((offn rs j : Int)).toNat = offn rs j from Int.toNat_natCast _, show (Int.toNat 2) = 2 from rfl, rd_u ok hr]
  exact k
theorem h_rdn {o : Nat} (n : Nat) (h : Led K H0 S H L I) (e : L[n]? = some (a, .raw (.lst ((wr rs).map V.int)))) (ok : BOk rs) (hr : rs[j]? = some r) (ho : offn rs j = o) (k : Q (.int r.n) H) : sp_read_word K A [.ref a, .int ((o : Int) + 4), .int 4] H Q E := by
  subst ho
  have w3 := (wr_at ok hr).2.2
  have u1 := (ok.get hr).u1
  refine h_rdword n h e (by omega) (by decide) (by decide) (by omega) ?_
  rw [show ((offn rs j : Int) + 4).toNat = offn rs j + 4 by omega, show (Int.toNat 4) = 4 from rfl, rd_n ok hr]
  exact k
theorem h_free0 {ds : List Int} {o : Nat} {z : Int} : True := trivial
end
theorem h_brbF {b : Bool} {t u : TS} {D : Ends} {σ : L2.St} {H : Hp} (h1 : b = false → t D σ H) (h2 : b = true → u D σ H) : Br (!b) t u D σ H := by
  cases b
  · exact iteT (h1 rfl)
  · exact iteF (h2 rfl)
theorem idx_some {p : Blk → Bool} {l : List Blk} {i : Nat} {x : Blk} (h : l[i]? = some x) (hp : p x = true) (hn : ∀ j y, j < i → l[j]? = some y → p y = false) : l.findIdx? p = some i := by
  obtain ⟨hi, e⟩ := List.getElem?_eq_some_iff.mp h
  rw [List.findIdx?_eq_some_iff_getElem]
  refine ⟨hi, by rw [e]; exact hp, fun j hj z => ?_⟩
  have q := hn j l[j] hj (List.getElem?_eq_getElem (by omega))
  rw [q] at z
  exact nomatch z
theorem idx_none {p : Blk → Bool} {l : List Blk} (hn : ∀ (j : Nat) y, l[j]? = some y → p y = false) : l.findIdx? p = none := by
  rw [List.findIdx?_eq_none_iff]
  intro x hx
  obtain ⟨i, hi, e⟩ := List.getElem_of_mem hx
  exact hn i x (by rw [List.getElem?_eq_getElem hi, e])

def t_join_free (K : PySem.W.Frag) (A : Ad) : TS :=
  (tSeq (tAsg (tC .non) (gName 1))
  (tFor (jL K (tCall (sp_offsets K A) [] E0 (tCons (mV 0) tNil))) (gName 2)
    (mIf (tNot (mTr K (tCall (sp_is_free K A) [] E0 (tCons (mV 0) (tCons (mV 2) tNil)))))
    (tAsg (tC .non) (gName 1))
    (mIf (mTest (tOp mIsN (mV 1) (tC .non)))
    (tAsg (mV 2) (gName 1))
    (tSeq (tAsg (tOp (mAdd K) (tCall (sp_read_word K A) [] E0 (tCons (mV 0) (tCons (mV 1) (tCons (tC (.int 2)) tNil)))) (tCall (sp_read_word K A) [] E0 (tCons (mV 0) (tCons (mV 2) (tCons (tC (.int 2)) tNil))))) (gName 3))
  (tDrop (tCall (sp_put_free K A) [] E0 (tCons (mV 0) (tCons (mV 1) (tCons (mV 3) tNil))))))))))
theorem rd_join_free {K : PySem.W.Frag} {A : Ad} {vs : List V} {H : Hp} {Q : VK} {E : XK} (h : sp_join_free K A vs H Q E) : t_join_free K A { nx := fun _ H' => Q .non H', rt := Q } (start ["data", "last", "offset", "units"] vs) H := by
  obtain ⟨a, rs, rfl, ha, ok, k⟩ := h
  show t_join_free K A _ [some (.ref a), none, none, none] H
  unfold t_join_free
  have hL : Led K H [a] H [(a, .raw (.lst ((wr (jmid rs 0)).map V.int)))] [] := Led.mk1 ha
  have hll := len_le ok.1
  have hu := ok.2
  walk_at "gs"
  refine h_offsets 0 hL rfl ok fun q H1 nq h1 => ?_
  walk_at "gs"
  refine lpL (xs := (offs rs).map V.int) (fun i σ H2 => ∃ y2 y3 : Option V, σ = [some (.ref a), some (lastV rs i), y2, y3] ∧ Led K H [a] H2 [(q, .raw (.lst ((offs rs).map V.int))), (a, .raw (.lst ((wr (jmid rs i)).map V.int)))] [])
    ⟨_, _, rfl, h1⟩ (fun i σ H2 _ ⟨_, _, _, h2⟩ => h2.sqL 0 rfl) ?_ ?_
  · clear hL h1
    rintro i x σ H2 hx ⟨y2, y3', rfl, h2⟩
    obtain ⟨z, hz, rfl⟩ := map_get hx
    obtain ⟨j, r, rfl, rfl, hr, _⟩ := offs_get hz
    obtain ⟨hj, _⟩ := List.getElem?_eq_some_iff.mp hr
    obtain ⟨hm, ho⟩ := jmid_at ok hr
    have mok := jmid_ok ok (i := j) (by omega)
    have uj := unt_joined ok (i := j) (by omega)
    walk_at "gs"
    refine h_isfreeO 1 h2 rfl mok hm ho ?_
    walk_at "gs"
    refine h_brbF (fun hb => ?_) (fun hb => ?_)
    · have js := jstep_used (acc := joined (rs.take j)) hb
      walk_at "gs"
      refine ⟨some (.int (offn rs j)), y3', ?_, ?_⟩
      rotate_left
      · rw [jmid_keep hr js]
        exact h2
      · rw [lastV_keep hr js, if_neg (by rw [hb]; exact Bool.false_ne_true)]
    · have keep : jstep (joined (rs.take j)) r = joined (rs.take j) ++ [r] → ∃ y2 y3 : Option V, ([some (.ref a), some (.int (offn rs j)), some (.int (offn rs j)), y3'] : L2.St) = [some (.ref a), some (lastV rs (j + 1)), y2, y3] ∧ Led K H [a] H2 [(q, .raw (.lst ((offs rs).map V.int))), (a, .raw (.lst ((wr (jmid rs (j + 1))).map V.int)))] [] := fun js => ⟨some (.int (offn rs j)), y3', by rw [lastV_keep hr js, if_pos hb, uj], by rw [jmid_keep hr js]; exact h2⟩
      walk_at "gs"
      cases hgl : (joined (rs.take j)).getLast? with
      | none =>
        have e : lastV rs j = .non := by unfold lastV; rw [hgl]
        rw [e]
        walk_at "gs"
        exact keep (jstep_none hgl)
      | some l =>
        cases hlf : l.fr with
        | false =>
          have e : lastV rs j = .non := by unfold lastV; rw [hgl]; exact if_neg (by rw [hlf]; exact Bool.false_ne_true)
          rw [e]
          walk_at "gs"
          exact keep (jstep_last hgl hlf)
        | true =>
          obtain ⟨jl1, jl2⟩ := jmid_last hgl
          have e : lastV rs j = .int (8 * unt (joined (rs.take j)).dropLast : Nat) := by unfold lastV; rw [hgl]; exact if_pos hlf
          rw [e]
          walk_at "gs"
          refine h_rdu 1 h2 rfl mok jl1 jl2 ?_
          walk_at "gs"
          refine h_rdu 1 h2 rfl mok hm ho ?_
          walk_at "gs"
          have lo := mok.get jl1
          have ro := ok.get hr
          have lu1 := lo.u1
          have w1 := wr_len mok.1
          have w2 := mok.2
          have ws := unt_le hm
          have el := congrArg unt (getLast_split hgl)
          rw [unt_app, unt_one] at el
          have et : unt ((jmid rs j).take (joined (rs.take j)).length) = unt (joined (rs.take j)) := by
            unfold jmid
            rw [List.take_left' rfl]
          rw [et] at ws
          rw [show (l.u : Int) + (r.u : Int) = ((l.u + r.u : Nat) : Int) by omega]
          refine h_putfree 1 h2 rfl (by omega) (by omega) (by omega) (.inr (by simp)) fun H3 h3 => ?_
          rw [jmid_join ok hr hgl hb hlf] at h3
          walk_at "gs"
          refine ⟨some (.int (offn rs j)), some (.int ((l.u + r.u : Nat) : Int)), ?_, h3⟩
          have js := jstep_join hgl hb hlf
          have e2 : lastV rs (j + 1) = .int (8 * unt (joined (rs.take j)).dropLast : Nat) := by
            unfold lastV
            rw [joined_snoc hr, js, (getLast_snoc _ _).1, (getLast_snoc _ _).2]
            rfl
          rw [e2]
  · rintro σ H2 ⟨y2, y3, rfl, h2⟩
    have e : ((offs rs).map V.int).length = rs.length := by unfold offs; rw [List.length_map, List.length_map, List.length_range]
    rw [e, jmid_all] at h2
    exact k H2 h2.kp (h2.raw 1 rfl)

def t_free_place (K : PySem.W.Frag) (A : Ad) : TS :=
  (tSeq (tFor (jL K (tCall (sp_offsets K A) [] E0 (tCons (mV 0) tNil))) (gName 2)
    (mIf (tAnd (mTr K (tCall (sp_is_free K A) [] E0 (tCons (mV 0) (tCons (mV 2) tNil)))) (mTest (tOp mGe (tCall (sp_read_word K A) [] E0 (tCons (mV 0) (tCons (mV 2) (tCons (tC (.int 2)) tNil)))) (mV 1))))
    (tRet (mV 2))
    tNext))
  (tRet (tC .non)))
theorem rd_free_place {K : PySem.W.Frag} {A : Ad} {vs : List V} {H : Hp} {Q : VK} {E : XK} (h : sp_free_place K A vs H Q E) : t_free_place K A { nx := fun _ H' => Q .non H', rt := Q } (start ["data", "units", "offset"] vs) H := by
  obtain ⟨a, rs, m, rfl, ha, ok, k⟩ := h
  show t_free_place K A _ [some (.ref a), some (.int m), none] H
  unfold t_free_place
  have hL : Led K H [] H [(a, .raw (.lst ((wr rs).map V.int)))] [] := Led.mk1 ha
  walk_at "gs"
  refine h_offsets 0 hL rfl ok fun q H1 nq h1 => ?_
  walk_at "gs"
  refine lpL (xs := (offs rs).map V.int) (fun i σ H2 => ∃ y2 : Option V, σ = [some (.ref a), some (.int m), y2] ∧ (∀ j y, j < i → rs[j]? = some y → (y.fr && decide (m ≤ y.u)) = false) ∧ Led K H [] H2 [(q, .raw (.lst ((offs rs).map V.int))), (a, .raw (.lst ((wr rs).map V.int)))] [])
    ⟨_, rfl, fun j y hj => absurd hj (Nat.not_lt_zero _), h1⟩ (fun i σ H2 _ ⟨_, _, _, h2⟩ => h2.sqL 0 rfl) ?_ ?_
  · clear hL h1
    rintro i x σ H2 hx ⟨y2, rfl, hn, h2⟩
    obtain ⟨z, hz, rfl⟩ := map_get hx
    obtain ⟨j, r, rfl, rfl, hr, _⟩ := offs_get hz
    have next : (r.fr && decide (m ≤ r.u)) = false → ∀ j' y, j' < j + 1 → rs[j']? = some y → (y.fr && decide (m ≤ y.u)) = false := fun hf j' y hj' hy => by
      rcases Nat.lt_or_ge j' j with z | z
      · exact hn j' y z hy
      · have e : j' = j := by omega
        subst e
        rw [hr] at hy
        cases hy
        exact hf
    walk_at "gs"
    refine h_isfreeO 1 h2 rfl ok hr rfl ?_
    walk_at "gs"
    refine h_itb (fun hb => ?_) (fun hb => ?_)
    · walk_at "gs"
      refine h_rdu 1 h2 rfl ok hr rfl ?_
      walk_at "gs"
      refine h_br (fun hc => ?_) (fun hc => ?_)
      · walk_at "gs"
        have e : place rs m = some j := idx_some hr (by show (r.fr && decide (m ≤ r.u)) = true; rw [hb, decide_eq_true (by omega)]; rfl) hn
        rw [show V.int (offn rs j) = oO rs (place rs m) by rw [e]; rfl]
        exact k H2 (KBs.same h2.kp)
      · walk_at "gs"
        exact ⟨_, rfl, next (by rw [hb, decide_eq_false (by omega)]; rfl), h2⟩
    · walk_at "gs"
      exact ⟨_, rfl, next (by rw [hb]; rfl), h2⟩
  · rintro σ H2 ⟨y2, rfl, hn, h2⟩
    have e : ((offs rs).map V.int).length = rs.length := by unfold offs; rw [List.length_map, List.length_map, List.length_range]
    rw [e] at hn
    walk_at "gs"
    have e : place rs m = none := idx_none fun j y hy => hn j y (List.getElem?_eq_some_iff.mp hy).1 hy
    rw [show V.non = oO rs (place rs m) by rw [e]; rfl]
    exact k H2 (KBs.same h2.kp)
def t_find_block (K : PySem.W.Frag) (A : Ad) : TS :=
  (tSeq (tFor (jL K (tCall (sp_offsets K A) [] E0 (tCons (mV 0) tNil))) (gName 3)
    (mIf (tAnd (tNot (mTr K (tCall (sp_is_free K A) [] E0 (tCons (mV 0) (tCons (mV 3) tNil))))) (mTest (tOp (mEq K) (tCall (sp_read_word K A) [] E0 (tCons (mV 0) (tCons (tOp (mAdd K) (mV 3) (tC (.int 4))) (tCons (tC (.int 4)) tNil)))) (mV 1))))
    (tSeq (tAsg (tOp (rIx K) (mV 0) (tOp (mAdd K) (mV 3) (tC (.int 3)))) (gName 4))
  (mIf (tOr (mTest (tOp (mEq K) (mV 4) (mV 2))) (tAnd (mTest (tOp mIsN (mV 2) (tC .non))) (mTest (tOp mLt (mV 4) (tC (.int 128))))))
    (tRet (mV 3))
    tNext))
    tNext))
  (tRet (tC .non)))
theorem rd_find_block {K : PySem.W.Frag} {A : Ad} {vs : List V} {H : Hp} {Q : VK} {E : XK} (h : sp_find_block K A vs H Q E) : t_find_block K A { nx := fun _ H' => Q .non H', rt := Q } (start ["data", "number", "version", "offset", "mark"] vs) H := by
  obtain ⟨a, rs, n, v, rfl, ha, ok, k⟩ := h
  show t_find_block K A _ [some (.ref a), some (.int n), some (.int v), none, none] H
  unfold t_find_block
  have hL : Led K H [] H [(a, .raw (.lst ((wr rs).map V.int)))] [] := Led.mk1 ha
  walk_at "gs"
  refine h_offsets 0 hL rfl ok fun q H1 nq h1 => ?_
  walk_at "gs"
  refine lpL (xs := (offs rs).map V.int) (fun i σ H2 => ∃ y3 y4 : Option V, σ = [some (.ref a), some (.int n), some (.int v), y3, y4] ∧ (∀ j y, j < i → rs[j]? = some y → (!y.fr && (decide ((y.n : Int) = n) && decide ((y.v : Int) = v))) = false) ∧ Led K H [] H2 [(q, .raw (.lst ((offs rs).map V.int))), (a, .raw (.lst ((wr rs).map V.int)))] [])
    ⟨_, _, rfl, fun j y hj => absurd hj (Nat.not_lt_zero _), h1⟩ (fun i σ H2 _ ⟨_, _, _, _, h2⟩ => h2.sqL 0 rfl) ?_ ?_
  · clear hL h1
    rintro i x σ H2 hx ⟨y3, y4, rfl, hn, h2⟩
    obtain ⟨z, hz, rfl⟩ := map_get hx
    obtain ⟨j, r, rfl, rfl, hr, _⟩ := offs_get hz
    have w3 := (wr_at ok hr).2.2
    have u1 := (ok.get hr).u1
    have next : (!r.fr && (decide ((r.n : Int) = n) && decide ((r.v : Int) = v))) = false → ∀ j' y, j' < j + 1 → rs[j']? = some y → (!y.fr && (decide ((y.n : Int) = n) && decide ((y.v : Int) = v))) = false := fun hf j' y hj' hy => by
      rcases Nat.lt_or_ge j' j with z | z
      · exact hn j' y z hy
      · have e : j' = j := by omega
        subst e
        rw [hr] at hy
        cases hy
        exact hf
    walk_at "gs"
    refine h_isfreeO 1 h2 rfl ok hr rfl ?_
    walk_at "gs"
    refine h_itb (b := !r.fr) (fun hb => ?_) (fun hb => ?_)
    · walk_at "gs"
      rw [show ((offn rs j : Int) + 4).toNat = offn rs j + 4 by omega, show (Int.toNat 4) = 4 from rfl, rd_n ok hr]
      refine h_br (fun hc => ?_) (fun hc => ?_)
      · walk_at "gs"
        refine h_ixI 1 h2 rfl (by omega) (by omega) ?_
        rw [show ((offn rs j : Int) + 3).toNat = offn rs j + 3 by omega, rd_v ok hr]
        walk_at "gs"
        refine h_ite (fun hv => ?_) (fun hv => ?_)
        · walk_at "gs"
          have e : found rs n v = some j := idx_some hr (by show (!r.fr && (decide ((r.n : Int) = n) && decide ((r.v : Int) = v))) = true; rw [hb, decide_eq_true hc, decide_eq_true hv]; rfl) hn
          rw [show V.int (offn rs j) = oO rs (found rs n v) by rw [e]; rfl]
          exact k H2 (KBs.same h2.kp)
        · walk_at "gs"
          exact ⟨_, _, rfl, next (by rw [hb, decide_eq_true hc, decide_eq_false hv]; rfl), h2⟩
      · walk_at "gs"
        exact ⟨_, _, rfl, next (by rw [hb, decide_eq_false hc]; rfl), h2⟩
    · walk_at "gs"
      exact ⟨_, _, rfl, next (by rw [hb]; rfl), h2⟩
  · rintro σ H2 ⟨y3, y4, rfl, hn, h2⟩
    have e : ((offs rs).map V.int).length = rs.length := by unfold offs; rw [List.length_map, List.length_map, List.length_range]
    rw [e] at hn
    walk_at "gs"
    have e : found rs n v = none := idx_none fun j y hy => hn j y (List.getElem?_eq_some_iff.mp hy).1 hy
    rw [show V.non = oO rs (found rs n v) by rw [e]; rfl]
    exact k H2 (KBs.same h2.kp)

section
variable {K : PySem.W.Frag} {A : Ad} {H0 H : Hp} {S : List Addr} {L : List (Addr × Ent)} {I : List (V × PyData)} {Q : VK} {E : XK} {a b : Addr} {xs ys : List Int} {rs : List Blk}
theorem h_extI (n m : Nat) (h : Led K H0 S H L I) (e : L[n]? = some (a, .raw (.lst (xs.map V.int)))) (e2 : L[m]? = some (b, .raw (.lst (ys.map V.int)))) (hs : H0 a = none ∨ a ∈ S) (hz : xs.length + ys.length ≤ sizeLine)
    (k : ∀ H', Led K H0 S H' (L.set n (a, .raw (.lst ((xs ++ ys).map V.int)))) I → Q .non H') : rExtend (.ref a) [.ref b] H Q :=
  ⟨a, b, _, _, rfl, rfl, h.raw n e, h.raw m e2, by rw [List.length_map, List.length_map]; exact hz, by
    rw [← List.map_append]
    exact k _ (h.wr n e (fun c o q hb => by rw [upd_ne (by simpa using hb)]; exact q) (h.raw n e) rfl upd_same hs)⟩
end
theorem seg_bb {rs : List Blk} (ok : BOk rs) {j : Nat} {r : Blk} (h : rs[j]? = some r) : seg (wr rs) (offn rs j) (8 * r.u) = r.bb := by
  obtain ⟨e1, e2, _⟩ := wr_at ok h
  have bl := bb_len (ok.get h)
  unfold seg
  rw [e1, ← List.append_assoc, List.take_left' (by rw [List.length_append, e2, bl]), List.drop_left' e2]
def kept (rs : List Blk) : List Blk := rs.filter fun r => !r.fr
def together (rs : List Blk) : List Blk := kept rs ++ (if unt (kept rs) < unt rs then [freeB (unt rs - unt (kept rs))] else [])
theorem kept_unt : ∀ rs : List Blk, unt (kept rs) ≤ unt rs
  | [] => Nat.le_refl _
  | r :: rs => by
    have := kept_unt rs
    unfold kept at this ⊢
    rw [List.filter_cons]
    split
    · rw [unt_cons, unt_cons]; omega
    · rw [unt_cons]; omega
theorem kept_ok {rs : List Blk} (h : ∀ r ∈ rs, r.Ok) : ∀ r ∈ kept rs, r.Ok := fun r hr => h r (List.mem_filter.mp hr).1
theorem together_ok {rs : List Blk} (h : BOk rs) : BOk (together rs) ∧ unt (together rs) = unt rs := by
  have hk := kept_unt rs
  unfold together
  by_cases c : unt (kept rs) < unt rs
  · rw [if_pos c]
    have e : unt (kept rs ++ [freeB (unt rs - unt (kept rs))]) = unt rs := by
      rw [unt_app, unt_one]
      show unt (kept rs) + (unt rs - unt (kept rs)) = _
      omega
    refine ⟨⟨fun r hr => ?_, by rw [e]; exact h.2⟩, e⟩
    rcases List.mem_append.mp hr with hr | hr
    · exact kept_ok h.1 r hr
    · cases List.mem_singleton.mp hr
      exact freeB_ok (by omega)
  · rw [if_neg c, List.append_nil]
    exact ⟨⟨kept_ok h.1, by have := h.2; omega⟩, by omega⟩
theorem kept_snoc {rs : List Blk} {j : Nat} {r : Blk} (h : rs[j]? = some r) : kept (rs.take (j + 1)) = kept (rs.take j) ++ (if r.fr = true then [] else [r]) := by
  unfold kept
  rw [List.take_add_one, h, List.filter_append]
  show _ ++ [r].filter _ = _
  cases hf : r.fr with
  | true => rw [List.filter_cons_of_neg (by rw [hf]; exact Bool.false_ne_true), if_pos rfl]; rfl
  | false => rw [List.filter_cons_of_pos (by rw [hf]; rfl), if_neg Bool.false_ne_true]; rfl
theorem unt_take (rs : List Blk) (j : Nat) : unt (rs.take j) ≤ unt rs := by
  have e := congrArg unt (List.take_append_drop j rs)
  rw [unt_app] at e
  omega
def sp_push_together (K : PySem.W.Frag) (A : Ad) : Sp := fun vs H Q _ => ∃ (a : Addr) (rs : List Blk), vs = [.ref a] ∧ H a = some (.lst ((wr rs).map V.int)) ∧ BOk rs ∧ ∀ H', KBs H H' [a] → H' a = some (.lst ((wr (together rs)).map V.int)) → Q .non H'

def t_push_together (K : PySem.W.Frag) (A : Ad) : TS :=
  (tSeq (tAsg (tLst tNil) (gName 1))
  (tSeq (tFor (jL K (tCall (sp_offsets K A) [] E0 (tCons (mV 0) tNil))) (gName 2)
    (mIf (tNot (mTr K (tCall (sp_is_free K A) [] E0 (tCons (mV 0) (tCons (mV 2) tNil)))))
    (tDrop (tBM K "list" rExtend (mV 1) (tCons (tSl (uSl K) (mV 0) (mPart (mV 2)) (mPart (tOp (mAdd K) (mV 2) (tOp mMul (tC (.int 8)) (tCall (sp_read_word K A) [] E0 (tCons (mV 0) (tCons (mV 2) (tCons (tC (.int 2)) tNil)))))))) tNil)))
    tNext))
  (tSeq (tAsg (tOp mFdiv (tOp mSub (tCB (hLen K) (tCons (mV 0) tNil)) (tCB (hLen K) (tCons (mV 1) tNil))) (tC (.int 8))) (gName 3))
  (tSeq (tAsg (mV 1) (gSlTo (mV 0) (tCB (hLen K) (tCons (mV 1) tNil))))
  (mIf (mTest (tOp mGt (mV 3) (tC (.int 0))))
    (tDrop (tCall (sp_put_free K A) [] E0 (tCons (mV 0) (tCons (tCB (hLen K) (tCons (mV 1) tNil)) (tCons (mV 3) tNil)))))
    tNext)))))
theorem rd_push_together {K : PySem.W.Frag} {A : Ad} {vs : List V} {H : Hp} {Q : VK} {E : XK} (h : sp_push_together K A vs H Q E) : t_push_together K A { nx := fun _ H' => Q .non H', rt := Q } (start ["data", "kept", "offset", "left"] vs) H := by
  obtain ⟨a, rs, rfl, ha, ok, k⟩ := h
  show t_push_together K A _ [some (.ref a), none, none, none] H
  unfold t_push_together
  have hL : Led K H [a] H [(a, .raw (.lst ((wr rs).map V.int)))] [] := Led.mk1 ha
  have hll := len_le ok.1
  have hu := ok.2
  have hw := wr_len ok.1
  walk_at "gs"
  rename_i kp H1 nkp h1
  refine h_offsets 1 h1 rfl ok fun q H2 nq h2 => ?_
  walk_at "gs"
  refine lpL (xs := (offs rs).map V.int) (fun i σ H2 => ∃ y2 : Option V, σ = [some (.ref a), some (.ref kp), y2, none] ∧ Led K H [a] H2 [(q, .raw (.lst ((offs rs).map V.int))), (kp, .raw (.lst ((wr (kept (rs.take i))).map V.int))), (a, .raw (.lst ((wr rs).map V.int)))] [])
    ⟨_, rfl, h2⟩ (fun i σ H2 _ ⟨_, _, h2⟩ => h2.sqL 0 rfl) ?_ ?_
  · clear hL h1 h2
    rintro i x σ H2 hx ⟨y2, rfl, h2⟩
    obtain ⟨z, hz, rfl⟩ := map_get hx
    obtain ⟨j, r, rfl, rfl, hr, _⟩ := offs_get hz
    have w3 := (wr_at ok hr).2.2
    have u1 := (ok.get hr).u1
    have ks := kept_snoc hr
    walk_at "gs"
    refine h_isfreeO 2 h2 rfl ok hr rfl ?_
    walk_at "gs"
    refine h_brbF (fun hb => ?_) (fun hb => ?_)
    · rw [if_neg (by rw [hb]; exact Bool.false_ne_true)] at ks
      walk_at "gs"
      rw [show (offn rs j : Int) + 8 * wnum (wr rs) ((offn rs j : Int)).toNat (Int.toNat 2) false = ((offn rs j + 8 * r.u : Nat) : Int) by rw [show ((offn rs j : Int)).toNat = offn rs j from Int.toNat_natCast _, show (Int.toNat 2) = 2 from rfl, rd_u ok hr]; omega]
      walk_at "gs"
      rename_i s1 H3 ns1 h3
      rw [Int.toNat_natCast, Int.toNat_natCast] at h3
      have h3 : Led K H [a] H3 [(s1, .raw (.lst ((seg (wr rs) (offn rs j) (8 * r.u)).map V.int))), (q, .raw (.lst ((offs rs).map V.int))), (kp, .raw (.lst ((wr (kept (rs.take j))).map V.int))), (a, .raw (.lst ((wr rs).map V.int)))] [] := h3
      rw [seg_bb ok hr] at h3
      have kw := wr_len (kept_ok (rs := rs.take j) fun x hx => ok.1 x (List.mem_of_mem_take hx))
      have ku := kept_unt (rs.take j)
      have kt := unt_take rs j
      have ub := ok.u hr
      refine h_extI 2 0 h3 rfl rfl nkp (by rw [kw, bb_len (ok.get hr), sizeLine_eq]; omega) fun H4 h4 => ?_
      have e : wr (kept (rs.take j)) ++ r.bb = wr (kept (rs.take (j + 1))) := by rw [ks, wr_app, wr_cons, wr_nil, List.append_nil]
      rw [e] at h4
      walk_at "gs"
      exact ⟨_, rfl, h4.tlL⟩
    · rw [if_pos hb, List.append_nil] at ks
      walk_at "gs"
      exact ⟨_, rfl, by rw [ks]; exact h2⟩
  · rintro σ H3 ⟨y2, rfl, h3⟩
    have e : ((offs rs).map V.int).length = rs.length := by unfold offs; rw [List.length_map, List.length_map, List.length_range]
    rw [e, List.take_of_length_le (Nat.le_refl _)] at h3
    clear hL h1 h2
    have kw := wr_len (kept_ok ok.1)
    have ku := kept_unt rs
    walk_at "gs"
    rw [List.length_map, List.length_map, hw, kw]
    refine h_slTo 2 1 h3 rfl rfl (by decide) (.inr (by simp)) (by omega) (by rw [hw]; omega) (by rw [hw, kw, sizeLine_eq]; omega) fun H4 h4 => ?_
    rw [Int.toNat_natCast] at h4
    have dl : ((wr rs).drop (8 * unt (kept rs))).length = 8 * (unt rs - unt (kept rs)) := by rw [List.length_drop, hw]; omega
    walk_at "gs"
    refine h_br (fun hc => ?_) (fun hc => ?_)
    · have hc : unt (kept rs) < unt rs := by omega
      walk_at "gs"
      rw [List.length_map, kw, show (((8 * unt rs : Nat) : Int) - ((8 * unt (kept rs) : Nat) : Int)) / 8 = ((unt rs - unt (kept rs) : Nat) : Int) by omega]
      refine h_putfree 2 h4 rfl (by omega) (by omega) (by rw [List.length_append, kw, dl]; omega) (.inr (by simp)) fun H5 h5 => ?_
      have e : putSeg (wr (kept rs) ++ (wr rs).drop (8 * unt (kept rs))) (8 * unt (kept rs)) (freeB (unt rs - unt (kept rs))).bb = wr (together rs) := by
        have q := putSeg_mid (a := wr (kept rs)) (b := (wr rs).drop (8 * unt (kept rs))) (c := []) (s := (freeB (unt rs - unt (kept rs))).bb) kw (by rw [dl, freeB_len (by omega)])
        rw [List.append_nil, List.append_nil] at q
        rw [q]
        unfold together
        rw [if_pos hc, wr_app, wr_cons, wr_nil, List.append_nil]
      rw [e] at h5
      walk_at "gs"
      exact k H5 h5.kp (h5.raw 2 rfl)
    · have hc : ¬ unt (kept rs) < unt rs := by omega
      have e : wr (kept rs) ++ (wr rs).drop (8 * unt (kept rs)) = wr (together rs) := by
        rw [List.eq_nil_of_length_eq_zero (dl.trans (by omega)), List.append_nil]
        unfold together
        rw [if_neg hc, List.append_nil]
      rw [e] at h4
      walk_at "gs"
      exact k H4 h4.kp (h4.raw 2 rfl)

theorem hdr_write {pre Z : List Int} {o : Nat} (ho : pre.length = o) {x0 x1 x2 x3 x4 x5 x6 x7 a b k v n0 n1 n2 n3 : Int} : putSeg (((putSeg (pre ++ ([x0, x1, x2, x3, x4, x5, x6, x7] ++ Z)) o [a, b]).set (o + 2) k).set (o + 3) v) (o + 4) [n0, n1, n2, n3] = pre ++ ([a, b, k, v, n0, n1, n2, n3] ++ Z) := by
  have e1 : putSeg (pre ++ ([x0, x1] ++ (x2 :: x3 :: x4 :: x5 :: x6 :: x7 :: Z))) o [a, b] = pre ++ ([a, b] ++ (x2 :: x3 :: x4 :: x5 :: x6 :: x7 :: Z)) := putSeg_mid ho rfl
  show putSeg (((putSeg (pre ++ ([x0, x1] ++ (x2 :: x3 :: x4 :: x5 :: x6 :: x7 :: Z))) o [a, b]).set (o + 2) k).set (o + 3) v) (o + 4) [n0, n1, n2, n3] = _
  rw [e1, List.set_append_right _ _ (by omega), show o + 2 - pre.length = 2 by omega]
  show putSeg ((pre ++ (a :: b :: k :: x3 :: x4 :: x5 :: x6 :: x7 :: Z)).set (o + 3) v) (o + 4) [n0, n1, n2, n3] = _
  rw [List.set_append_right _ _ (by omega), show o + 3 - pre.length = 3 by omega]
  have e2 := putSeg_mid (a := pre ++ [a, b, k, v]) (b := [x4, x5, x6, x7]) (c := Z) (s := [n0, n1, n2, n3]) (o := o + 4) (by rw [List.length_append, ho]; rfl) rfl
  rw [List.append_assoc, List.append_assoc] at e2
  exact e2
def newB (m k v n : Nat) : Blk := ⟨m, k, v, n, List.replicate (8 * m - 8) 0⟩
theorem newB_ok {m k v n : Nat} (m1 : 1 ≤ m) (k0 : k ≠ 0) (k1 : k < 256) (v1 : v < 256) (n0 : n ≠ 0) (n1 : n < 2 ^ 31) : (newB m k v n).Ok :=
  ⟨m1, k1, v1, n1, by show (List.replicate (8 * m - 8) (0 : Int)).length ≤ 8 * m - 8; rw [List.length_replicate]; exact Nat.le_refl _, fun b hb => by rw [List.eq_of_mem_replicate hb]; omega, fun z => absurd z k0, fun _ => ⟨n0, List.length_replicate⟩⟩
def tail (u m : Nat) : List Blk := if m < u then [freeB (u - m)] else []
def putAt (rs : List Blk) (j m k v n : Nat) : List Blk := rs.take j ++ ([newB m k v n] ++ (tail (rs.getD j (freeB 0)).u m ++ rs.drop (j + 1)))
def takeR (rs : List Blk) (m k v n : Nat) : Option (List Blk × Nat) :=
  if unt rs < usedU rs + m then none else some (match place rs m with | some j => (putAt rs j m k v n, j) | none => (putAt (together rs) (kept rs).length m k v n, (kept rs).length))
theorem place_spec {rs : List Blk} {m j : Nat} (h : place rs m = some j) : ∃ r, rs[j]? = some r ∧ r.fr = true ∧ m ≤ r.u := by
  unfold place at h
  rw [List.findIdx?_eq_some_iff_getElem] at h
  obtain ⟨hj, h1, _⟩ := h
  rw [Bool.and_eq_true] at h1
  exact ⟨rs[j], List.getElem?_eq_getElem hj, h1.1, of_decide_eq_true h1.2⟩
theorem usedU_kept (rs : List Blk) : usedU rs = unt (kept rs) := rfl
theorem place_together {rs : List Blk} {m : Nat} (ok : BOk rs) (m1 : 1 ≤ m) (h : ¬ unt rs < usedU rs + m) : place (together rs) m = some (kept rs).length ∧ (together rs)[(kept rs).length]? = some (freeB (unt rs - unt (kept rs))) ∧ m ≤ unt rs - unt (kept rs) := by
  rw [usedU_kept] at h
  have c : unt (kept rs) < unt rs := by omega
  have e : together rs = kept rs ++ [freeB (unt rs - unt (kept rs))] := by unfold together; rw [if_pos c]
  have g : (together rs)[(kept rs).length]? = some (freeB (unt rs - unt (kept rs))) := by
    rw [e, List.getElem?_append_right (Nat.le_refl _), Nat.sub_self]
    rfl
  refine ⟨idx_some g ?_ fun j y hj hy => ?_, g, by omega⟩
  · show (true && decide (m ≤ unt rs - unt (kept rs))) = true
    rw [decide_eq_true (by omega)]
    rfl
  · rw [e, List.getElem?_append_left hj] at hy
    have q := (List.mem_filter.mp (List.mem_of_getElem? hy)).2
    rw [Bool.not_eq_true'] at q
    rw [q]
    rfl
theorem free_is {r : Blk} (ok : r.Ok) (h : r.fr = true) : r = freeB r.u := ok.f1 (by unfold Blk.fr at h; exact beq_iff_eq.mp h)
/-- the bytes behind a block taken -/
theorem take_bytes {rs : List Blk} (ok : BOk rs) {j m k v n : Nat} {r : Blk} (hr : rs[j]? = some r) (hf : r.fr = true) (m1 : 1 ≤ m) (hm : m ≤ r.u) (n1 : n < 2 ^ 31) :
    putSeg (((putSeg (if m < r.u then putSeg (wr rs) (offn rs j + 8 * m) (freeB (r.u - m)).bb else wr rs) (offn rs j) (dg 256 2 (m : Int))).set (offn rs j + 2) (k : Int)).set (offn rs j + 3) (v : Int)) (offn rs j + 4) (dg 256 4 (n : Int)) = wr (putAt rs j m k v n) := by
  obtain ⟨e1, e2, e3⟩ := wr_at ok hr
  have ub := ok.u hr
  have fr := free_is (ok.get hr) hf
  have u1 := (ok.get hr).u1
  have eb : r.bb = ((((r.u % 256 : Nat) : Int)) :: (((r.u / 256 : Nat) : Int)) :: 0 :: 0 :: 0 :: 0 :: 0 :: 0 :: List.replicate (8 * m - 8) 0) ++ List.replicate (8 * (r.u - m)) 0 := by
    have eb0 : r.bb = (freeB r.u).bb := congrArg Blk.bb fr
    rw [eb0, freeB_bb u1 (by omega), dg_two _ (by omega), show 8 * r.u - 2 = ((8 * m - 8) + 8 * (r.u - m)) + 1 + 1 + 1 + 1 + 1 + 1 by omega]
    simp only [List.replicate_succ, List.cons_append, List.nil_append, List.replicate_append_replicate]
  have getr : rs.getD j (freeB 0) = r := by rw [List.getD_eq_getElem?_getD, hr]; rfl
  have eD : (if m < r.u then putSeg (wr rs) (offn rs j + 8 * m) (freeB (r.u - m)).bb else wr rs) = wr (rs.take j) ++ ([((r.u % 256 : Nat) : Int), ((r.u / 256 : Nat) : Int), 0, 0, 0, 0, 0, 0] ++ (List.replicate (8 * m - 8) 0 ++ (wr (tail r.u m) ++ wr (rs.drop (j + 1))))) := by
    unfold tail
    by_cases c : m < r.u
    · rw [if_pos c, if_pos c, wr_cons, wr_nil, List.append_nil, e1, eb]
      have q := putSeg_mid (a := wr (rs.take j) ++ (((r.u % 256 : Nat) : Int) :: ((r.u / 256 : Nat) : Int) :: 0 :: 0 :: 0 :: 0 :: 0 :: 0 :: List.replicate (8 * m - 8) 0)) (b := List.replicate (8 * (r.u - m)) 0) (c := wr (rs.drop (j + 1))) (s := (freeB (r.u - m)).bb) (o := offn rs j + 8 * m) (by
        rw [List.length_append, e2]
        simp only [List.length_cons, List.length_replicate]
        omega) (by rw [freeB_len (by omega), List.length_replicate])
      simp only [List.append_assoc, List.cons_append, List.nil_append] at q ⊢
      exact q
    · rw [if_neg c, if_neg c, wr_nil, List.nil_append, e1, eb, show r.u - m = 0 by omega, Nat.mul_zero]
      simp only [List.append_assoc, List.cons_append, List.nil_append, List.replicate_zero]
  rw [eD, dg_two m (by omega)]
  show putSeg _ _ [(n : Int) % 256, (n : Int) / 256 % 256, (n : Int) / 256 / 256 % 256, (n : Int) / 256 / 256 / 256 % 256] = _
  rw [hdr_write e2]
  unfold putAt
  rw [getr, wr_app, wr_app, wr_app, wr_cons, wr_nil, List.append_nil]
  show _ = _ ++ (([((m % 256 : Nat) : Int), ((m / 256 : Nat) : Int), (k : Int), (v : Int)] ++ dg 256 4 (n : Int)) ++ (List.replicate (8 * m - 8) 0 ++ List.replicate (8 * m - 8 - (List.replicate (8 * m - 8) (0 : Int)).length) 0) ++ _)
  rw [List.length_replicate, Nat.sub_self, List.replicate_zero, List.append_nil]
  simp only [List.append_assoc, List.cons_append, List.nil_append]
  rfl

theorem putAt_ok {rs : List Blk} (ok : BOk rs) {j m k v n : Nat} {r : Blk} (hr : rs[j]? = some r) (m1 : 1 ≤ m) (hm : m ≤ r.u) (k0 : k ≠ 0) (k1 : k < 256) (v1 : v < 256) (n0 : n ≠ 0) (n1 : n < 2 ^ 31) : BOk (putAt rs j m k v n) ∧ unt (putAt rs j m k v n) = unt rs ∧ (putAt rs j m k v n)[j]? = some (newB m k v n) ∧ offn (putAt rs j m k v n) j = offn rs j := by
  obtain ⟨hj, _⟩ := List.getElem?_eq_some_iff.mp hr
  have getr : rs.getD j (freeB 0) = r := by rw [List.getD_eq_getElem?_getD, hr]; rfl
  have tl : (rs.take j).length = j := by rw [List.length_take]; omega
  have ut : unt (tail r.u m) = r.u - m := by
    unfold tail
    split
    · rw [unt_one]; rfl
    · rename_i c
      show 0 = _
      omega
  have es := congrArg unt (split_at hr)
  rw [unt_app, unt_cons] at es
  have eu : unt (putAt rs j m k v n) = unt rs := by
    unfold putAt
    rw [getr, unt_app, unt_app, unt_app, unt_one, ut]
    show _ + (m + _) = _
    omega
  refine ⟨⟨fun x hx => ?_, by rw [eu]; exact ok.2⟩, eu, ?_, ?_⟩
  · unfold putAt at hx
    rw [getr] at hx
    rcases List.mem_append.mp hx with hx | hx
    · exact ok.1 x (List.mem_of_mem_take hx)
    · rcases List.mem_append.mp hx with hx | hx
      · cases List.mem_singleton.mp hx
        exact newB_ok m1 k0 k1 v1 n0 n1
      · rcases List.mem_append.mp hx with hx | hx
        · unfold tail at hx
          split at hx
          · cases List.mem_singleton.mp hx
            exact freeB_ok (by omega)
          · exact nomatch hx
        · exact ok.1 x (List.mem_of_mem_drop hx)
  · unfold putAt
    rw [List.getElem?_append_right (by omega), tl, Nat.sub_self]
    rfl
  · unfold offn putAt
    rw [List.take_left' tl]
def sp_take (K : PySem.W.Frag) (A : Ad) : Sp := fun vs H Q E => ∃ (a : Addr) (rs : List Blk) (m k v n : Nat), vs = [.ref a, .int m, .int k, .int v, .int n] ∧ H a = some (.lst ((wr rs).map V.int)) ∧ BOk rs ∧ 1 ≤ m ∧ m ≤ 100 ∧ k ≠ 0 ∧ k < 256 ∧ v < 256 ∧ n ≠ 0 ∧ n < 2 ^ 31 ∧
  (takeR rs m k v n = none → ∀ H', KBs H H' [a] → H' a = some (.lst ((wr rs).map V.int)) → E (.ref A.c_Full) none H') ∧
  (∀ rs' j, takeR rs m k v n = some (rs', j) → ∀ H', KBs H H' [a] → H' a = some (.lst ((wr rs').map V.int)) → Q (.int (offn rs' j)) H')
def sp_give_back (K : PySem.W.Frag) (A : Ad) : Sp := fun vs H Q _ => ∃ (a : Addr) (rs : List Blk) (j : Nat) (r : Blk), vs = [.ref a, .int (offn rs j)] ∧ H a = some (.lst ((wr rs).map V.int)) ∧ BOk rs ∧ rs[j]? = some r ∧ ∀ H', KBs H H' [a] → H' a = some (.lst ((wr (joined (rs.set j (freeB r.u)))).map V.int)) → Q .non H'
def sp_grow (K : PySem.W.Frag) (A : Ad) : Sp := fun vs H Q _ => ∃ (a : Addr) (rs : List Blk) (d : Nat), vs = [.ref a, .int (8 * (unt rs + d) : Nat)] ∧ H a = some (.lst ((wr rs).map V.int)) ∧ BOk rs ∧ 1 ≤ d ∧ unt rs + d ≤ 100 ∧ ∀ H', KBs H H' [a] → H' a = some (.lst ((wr (joined (rs ++ [freeB d]))).map V.int)) → Q .non H'
def sp_empty (K : PySem.W.Frag) (A : Ad) : Sp := fun vs H Q _ => ∃ u : Nat, vs = [.int (8 * u : Nat)] ∧ 1 ≤ u ∧ u ≤ 100 ∧ ∀ p H', Same H H' → H p = none → H' p = some (.lst ((wr [freeB u]).map V.int)) → Q (.ref p) H'
theorem set_wr {rs : List Blk} (ok : BOk rs) {j : Nat} {r : Blk} (hr : rs[j]? = some r) : putSeg (wr rs) (offn rs j) (freeB r.u).bb = wr (rs.set j (freeB r.u)) ∧ BOk (rs.set j (freeB r.u)) ∧ unt (rs.set j (freeB r.u)) = unt rs := by
  obtain ⟨e1, e2, e3⟩ := wr_at ok hr
  obtain ⟨hj, _⟩ := List.getElem?_eq_some_iff.mp hr
  have u1 := (ok.get hr).u1
  have es : rs.set j (freeB r.u) = rs.take j ++ freeB r.u :: rs.drop (j + 1) := List.set_eq_take_append_cons_drop.trans (if_pos hj)
  have eu : unt (rs.set j (freeB r.u)) = unt rs := by
    have q := congrArg unt (split_at hr)
    rw [unt_app, unt_cons] at q
    rw [es, unt_app, unt_cons]
    exact q.symm
  refine ⟨?_, ⟨fun x hx => ?_, by rw [eu]; exact ok.2⟩, eu⟩
  · rw [es, wr_app, wr_cons, e1]
    exact putSeg_mid e2 (by rw [freeB_len u1, bb_len (ok.get hr)])
  · rcases List.mem_or_eq_of_mem_set hx with hx | hx
    · exact ok.1 x hx
    · rw [hx]
      exact freeB_ok u1
section
variable {K : PySem.W.Frag} {A : Ad} {H0 H : Hp} {S : List Addr} {L : List (Addr × Ent)} {I : List (V × PyData)} {Q : VK} {E : XK} {a : Addr} {rs : List Blk}
theorem h_freeplace {m : Nat} (n : Nat) (h : Led K H0 S H L I) (e : L[n]? = some (a, .raw (.lst ((wr rs).map V.int)))) (ok : BOk rs) (k : ∀ H', Led K H0 S H' L I → Q (oO rs (place rs m)) H') : sp_free_place K A [.ref a, .int m] H Q E :=
  ⟨a, rs, m, rfl, h.raw n e, ok, fun H' s => k H' (h.same s)⟩
theorem h_used (n : Nat) (h : Led K H0 S H L I) (e : L[n]? = some (a, .raw (.lst ((wr rs).map V.int)))) (ok : BOk rs) (k : ∀ H', Led K H0 S H' L I → Q (.int (8 * usedU rs : Nat)) H') : sp_used K A [.ref a] H Q E :=
  ⟨a, rs, rfl, h.raw n e, ok, fun H' s => k H' (h.same s)⟩
theorem h_pushtog (n : Nat) (h : Led K H0 S H L I) (e : L[n]? = some (a, .raw (.lst ((wr rs).map V.int)))) (ok : BOk rs) (hs : H0 a = none ∨ a ∈ S) (k : ∀ H', Led K H0 S H' (L.set n (a, .raw (.lst ((wr (together rs)).map V.int)))) I → Q .non H') : sp_push_together K A [.ref a] H Q E :=
  ⟨a, rs, rfl, h.raw n e, ok, fun H' kb he => k H' (h.wr (e' := .raw (.lst ((wr (together rs)).map V.int))) n e kb (h.raw n e) rfl he hs)⟩
theorem h_joinfree (n : Nat) (h : Led K H0 S H L I) (e : L[n]? = some (a, .raw (.lst ((wr rs).map V.int)))) (ok : BOk rs) (hs : H0 a = none ∨ a ∈ S) (k : ∀ H', Led K H0 S H' (L.set n (a, .raw (.lst ((wr (joined rs)).map V.int)))) I → Q .non H') : sp_join_free K A [.ref a] H Q E :=
  ⟨a, rs, rfl, h.raw n e, ok, fun H' kb he => k H' (h.wr (e' := .raw (.lst ((wr (joined rs)).map V.int))) n e kb (h.raw n e) rfl he hs)⟩
end

def t_take (K : PySem.W.Frag) (A : Ad) (W : WX) : TS :=
  (tSeq (mIf (mTest (tOp mGt (tOp (mAdd K) (tCall (sp_used K A) [] E0 (tCons (mV 0) tNil)) (tOp mMul (mV 1) (tC (.int 8)))) (tCB (hLen K) (tCons (mV 0) tNil))))
    (mRaise0 A.c_Full W)
    tNext)
  (tSeq (tAsg (tCall (sp_free_place K A) [] E0 (tCons (mV 0) (tCons (mV 1) tNil))) (gName 5))
  (mCut (mIf (mTest (tOp mIsN (mV 5) (tC .non)))
    (tSeq (tDrop (tCall (sp_push_together K A) [] E0 (tCons (mV 0) tNil)))
  (tAsg (tCall (sp_free_place K A) [] E0 (tCons (mV 0) (tCons (mV 1) tNil))) (gName 5)))
    tNext)
  (tSeq (tAsg (tOp mSub (tCall (sp_read_word K A) [] E0 (tCons (mV 0) (tCons (mV 5) (tCons (tC (.int 2)) tNil)))) (mV 1)) (gName 6))
  (mCut (mIf (mTest (tOp mGt (mV 6) (tC (.int 0))))
    (tDrop (tCall (sp_put_free K A) [] E0 (tCons (mV 0) (tCons (tOp (mAdd K) (mV 5) (tOp mMul (mV 1) (tC (.int 8)))) (tCons (mV 6) tNil)))))
    tNext)
  (tSeq (tDrop (tCall (sp_write_word K A) [] E0 (tCons (mV 0) (tCons (mV 5) (tCons (tC (.int 2)) (tCons (mV 1) tNil))))))
  (tSeq (tAsg (mV 2) (gSub (mV 0) (tOp (mAdd K) (mV 5) (tC (.int 2))) rSetL))
  (tSeq (tAsg (mV 3) (gSub (mV 0) (tOp (mAdd K) (mV 5) (tC (.int 3))) rSetL))
  (tSeq (tDrop (tCall (sp_write_word K A) [] E0 (tCons (mV 0) (tCons (tOp (mAdd K) (mV 5) (tC (.int 4))) (tCons (tC (.int 4)) (tCons (mV 4) tNil))))))
  (tRet (mV 5)))))))))))
theorem rd_take {K : PySem.W.Frag} {A : Ad} {vs : List V} {H : Hp} {Q : VK} {E : XK} (h : sp_take K A vs H Q E) : t_take K A (fun cls d _ H => E cls d H) { nx := fun _ H' => Q .non H', rt := Q } (start ["data", "units", "kind", "version", "number", "offset", "left"] vs) H := by
  obtain ⟨a, rs, m, kk, v, n, rfl, ha, ok, m1, m2, k0, k1, v1, n0, n1, ke, k⟩ := h
  show t_take K A _ _ [some (.ref a), some (.int m), some (.int kk), some (.int v), some (.int n), none, none] H
  unfold t_take
  have hL : Led K H [a] H [(a, .raw (.lst ((wr rs).map V.int)))] [] := Led.mk1 ha
  have hu := ok.2
  have hw := wr_len ok.1
  walk_at "gs"
  refine h_used 0 hL rfl ok fun H1 h1 => ?_
  have ku := kept_unt rs
  have eu := usedU_kept rs
  walk_at "gs"
  rw [List.length_map, hw]
  refine h_br (fun hc => ?_) (fun hc => ?_)
  · walk_at "gs"
    exact ke (by unfold takeR; rw [if_pos (by omega)]) H1 h1.kp (h1.raw 0 rfl)
  have hc : ¬ unt rs < usedU rs + m := by omega
  walk_at "gs"
  refine h_freeplace 0 h1 rfl ok fun H2 h2 => ?_
  clear hL h1
  walk_at "gs"
  refine h_cut (fun σ H3 => ∃ (rs1 : List Blk) (j : Nat) (r : Blk), σ = [some (.ref a), some (.int m), some (.int kk), some (.int v), some (.int n), some (.int (offn rs1 j)), none] ∧ BOk rs1 ∧ rs1[j]? = some r ∧ r.fr = true ∧ m ≤ r.u ∧ takeR rs m kk v n = some (putAt rs1 j m kk v n, j) ∧ Led K H [a] H3 [(a, .raw (.lst ((wr rs1).map V.int)))] []) ?_ ?_
  · walk_at "gs"
    cases hp : place rs m with
    | some j =>
      obtain ⟨r, hr, hf, hm⟩ := place_spec hp
      rw [show oO rs (some j) = .int (offn rs j) from rfl]
      walk_at "gs"
      exact ⟨rs, j, r, rfl, ok, hr, hf, hm, by unfold takeR; rw [if_neg hc, hp], h2⟩
    | none =>
      obtain ⟨p1, p2, p3⟩ := place_together ok m1 hc
      obtain ⟨tok, _⟩ := together_ok ok
      rw [show oO rs none = .non from rfl]
      walk_at "gs"
      refine h_pushtog 0 h2 rfl ok (.inr (by simp)) fun H3 h3 => ?_
      walk_at "gs"
      refine h_freeplace 0 h3 rfl tok fun H4 h4 => ?_
      rw [p1, show oO (together rs) (some (kept rs).length) = .int (offn (together rs) (kept rs).length) from rfl]
      walk_at "gs"
      exact ⟨together rs, (kept rs).length, _, rfl, tok, p2, rfl, p3, by unfold takeR; rw [if_neg hc, hp], h4⟩
  rintro σ H3 ⟨rs1, j, r, rfl, ok1, hr, hf, hm, et, h3⟩
  clear h2
  have w3 := (wr_at ok1 hr).2.2
  have u1 := (ok1.get hr).u1
  have ub := ok1.u hr
  have hw1 := wr_len ok1.1
  have hu1 := ok1.2
  walk_at "gs"
  rw [show ((offn rs1 j : Int)).toNat = offn rs1 j from Int.toNat_natCast _, show (Int.toNat 2) = 2 from rfl, rd_u ok1 hr]
  refine h_cut (fun σ H4 => ∃ y6 : Option V, σ = [some (.ref a), some (.int m), some (.int kk), some (.int v), some (.int n), some (.int (offn rs1 j)), y6] ∧ Led K H [a] H4 [(a, .raw (.lst ((if m < r.u then putSeg (wr rs1) (offn rs1 j + 8 * m) (freeB (r.u - m)).bb else wr rs1).map V.int)))] []) ?_ ?_
  · walk_at "gs"
    refine h_br (fun hc2 => ?_) (fun hc2 => ?_)
    · have hc3 : m < r.u := by omega
      walk_at "gs"
      rw [show (offn rs1 j : Int) + (m : Int) * 8 = ((offn rs1 j + 8 * m : Nat) : Int) by omega, show (r.u : Int) - (m : Int) = ((r.u - m : Nat) : Int) by omega]
      refine h_putfree 0 h3 rfl (by omega) (by omega) (by omega) (.inr (by simp)) fun H4 h4 => ?_
      walk_at "gs"
      exact ⟨_, rfl, by rw [if_pos hc3]; exact h4⟩
    · walk_at "gs"
      exact ⟨_, rfl, by rw [if_neg (by omega)]; exact h3⟩
  rintro σ H4 ⟨y6, rfl, h4⟩
  have dl : (if m < r.u then putSeg (wr rs1) (offn rs1 j + 8 * m) (freeB (r.u - m)).bb else wr rs1).length = (wr rs1).length := by
    split
    · exact putSeg_len (by rw [freeB_len (by omega)]; omega)
    · rfl
  have tb := take_bytes ok1 hr hf m1 hm n1 (k := kk) (v := v) (n := n)
  generalize hD : (if m < r.u then putSeg (wr rs1) (offn rs1 j + 8 * m) (freeB (r.u - m)).bb else wr rs1) = D at *
  clear h3
  obtain ⟨po, _, _, pf⟩ := putAt_ok ok1 hr m1 hm k0 k1 v1 n0 n1
  walk_at "gs"
  rename_i H5 h5
  rw [Int.toNat_natCast] at h5
  have h5 : Led K H [a] H5 [(a, .raw (.lst ((putSeg D (offn rs1 j) (dg 256 2 (m : Int))).map V.int)))] [] := h5
  have l5 : (putSeg D (offn rs1 j) (dg 256 2 (m : Int))).length = (wr rs1).length := (putSeg_len (by rw [dg_len]; omega)).trans dl
  refine h_setI 0 h5 rfl (.inr (by simp)) (by omega) (by omega) fun H6 h6 => ?_
  rw [show ((offn rs1 j : Int) + 2).toNat = offn rs1 j + 2 by omega] at h6
  refine h_setI 0 h6 rfl (.inr (by simp)) (by omega) (by rw [List.length_set]; omega) fun H7 h7 => ?_
  rw [show ((offn rs1 j : Int) + 3).toNat = offn rs1 j + 3 by omega] at h7
  refine h_wrword 0 h7 rfl (by omega) (by decide) (by decide) (by rw [List.length_set, List.length_set]; omega) (.inr (by simp)) fun H8 h8 => ?_
  rw [show ((offn rs1 j : Int) + 4).toNat = offn rs1 j + 4 by omega] at h8
  have h8 : Led K H [a] H8 [(a, .raw (.lst ((putSeg (((putSeg D (offn rs1 j) (dg 256 2 (m : Int))).set (offn rs1 j + 2) (kk : Int)).set (offn rs1 j + 3) (v : Int)) (offn rs1 j + 4) (dg 256 4 (n : Int))).map V.int)))] [] := h8
  rw [tb] at h8
  rw [← pf]
  exact k _ _ et H8 h8.kp (h8.raw 0 rfl)
def t_give_back (K : PySem.W.Frag) (A : Ad) : TS :=
  (tSeq (tDrop (tCall (sp_put_free K A) [] E0 (tCons (mV 0) (tCons (mV 1) (tCons (tCall (sp_read_word K A) [] E0 (tCons (mV 0) (tCons (mV 1) (tCons (tC (.int 2)) tNil)))) tNil)))))
  (tDrop (tCall (sp_join_free K A) [] E0 (tCons (mV 0) tNil))))
theorem rd_give_back {K : PySem.W.Frag} {A : Ad} {vs : List V} {H : Hp} {Q : VK} {E : XK} (h : sp_give_back K A vs H Q E) : t_give_back K A { nx := fun _ H' => Q .non H', rt := Q } (start ["data", "offset"] vs) H := by
  obtain ⟨a, rs, j, r, rfl, ha, ok, hr, k⟩ := h
  show t_give_back K A _ [some (.ref a), some (.int (offn rs j))] H
  unfold t_give_back
  have hL : Led K H [a] H [(a, .raw (.lst ((wr rs).map V.int)))] [] := Led.mk1 ha
  have w3 := (wr_at ok hr).2.2
  have u1 := (ok.get hr).u1
  have ub := ok.u hr
  obtain ⟨s1, s2, s3⟩ := set_wr ok hr
  walk_at "gs"
  rw [show ((offn rs j : Int)).toNat = offn rs j from Int.toNat_natCast _, show (Int.toNat 2) = 2 from rfl, rd_u ok hr]
  refine h_putfree 0 hL rfl u1 ub w3 (.inr (by simp)) fun H1 h1 => ?_
  rw [s1] at h1
  walk_at "gs"
  refine h_joinfree 0 h1 rfl s2 (.inr (by simp)) fun H2 h2 => ?_
  walk_at "gs"
  exact k H2 h2.kp (h2.raw 0 rfl)
def t_grow (K : PySem.W.Frag) (A : Ad) : TS :=
  (tSeq (tAsg (tCB (hLen K) (tCons (mV 0) tNil)) (gName 2))
  (tSeq (tDrop (tBM K "list" rExtend (mV 0) (tCons (tOp mMul (tLst (tCons (tC (.int 0)) tNil)) (tOp mSub (mV 1) (mV 2))) tNil)))
  (tSeq (tDrop (tCall (sp_put_free K A) [] E0 (tCons (mV 0) (tCons (mV 2) (tCons (tOp mFdiv (tOp mSub (mV 1) (mV 2)) (tC (.int 8))) tNil)))))
  (tDrop (tCall (sp_join_free K A) [] E0 (tCons (mV 0) tNil))))))
theorem rd_grow {K : PySem.W.Frag} {A : Ad} {vs : List V} {H : Hp} {Q : VK} {E : XK} (h : sp_grow K A vs H Q E) : t_grow K A { nx := fun _ H' => Q .non H', rt := Q } (start ["data", "size", "old"] vs) H := by
  obtain ⟨a, rs, d, rfl, ha, ok, d1, d2, k⟩ := h
  show t_grow K A _ [some (.ref a), some (.int (8 * (unt rs + d) : Nat)), none] H
  unfold t_grow
  have hL : Led K H [a] H [(a, .raw (.lst ((wr rs).map V.int)))] [] := Led.mk1 ha
  have hw := wr_len ok.1
  walk_at "gs"
  rename_i z0 H1 nz0 h1
  rw [List.length_map, hw]
  rw [show ((8 * (unt rs + d) : Nat) : Int) - ((8 * unt rs : Nat) : Int) = ((8 * d : Nat) : Int) by omega]
  refine h_rep 0 h1 rfl (by omega) (by omega) fun z1 H2 nz1 h2 => ?_
  rw [Int.toNat_natCast] at h2
  walk_at "gs"
  refine h_extI 2 0 h2 rfl rfl (.inr (by simp)) (by rw [hw, List.length_replicate, sizeLine_eq]; omega) fun H3 h3 => ?_
  walk_at "gs"
  rw [show ((8 * d : Nat) : Int) / 8 = (d : Int) by omega]
  refine h_putfree 2 h3 rfl d1 (by omega) (by rw [List.length_append, hw, List.length_replicate]; omega) (.inr (by simp)) fun H4 h4 => ?_
  have e : putSeg (wr rs ++ List.replicate (8 * d) 0) (8 * unt rs) (freeB d).bb = wr (rs ++ [freeB d]) := by
    have q := putSeg_mid (a := wr rs) (b := List.replicate (8 * d) 0) (c := []) (s := (freeB d).bb) hw (by rw [freeB_len d1, List.length_replicate])
    rw [List.append_nil, List.append_nil] at q
    rw [q, wr_app, wr_cons, wr_nil, List.append_nil]
  rw [e] at h4
  have ok2 : BOk (rs ++ [freeB d]) := ⟨fun x hx => by
    rcases List.mem_append.mp hx with hx | hx
    · exact ok.1 x hx
    · cases List.mem_singleton.mp hx
      exact freeB_ok d1, by rw [unt_app, unt_one]; exact d2⟩
  walk_at "gs"
  refine h_joinfree 2 h4 rfl ok2 (.inr (by simp)) fun H5 h5 => ?_
  walk_at "gs"
  exact k H5 h5.kp (h5.raw 2 rfl)
def t_empty (K : PySem.W.Frag) (A : Ad) : TS :=
  (tSeq (tAsg (tOp mMul (tLst (tCons (tC (.int 0)) tNil)) (mV 0)) (gName 1))
  (tSeq (tDrop (tCall (sp_write_word K A) [] E0 (tCons (mV 1) (tCons (tC (.int 0)) (tCons (tC (.int 2)) (tCons (tOp mFdiv (mV 0) (tC (.int 8))) tNil))))))
  (tRet (mV 1))))
theorem rd_empty {K : PySem.W.Frag} {A : Ad} {vs : List V} {H : Hp} {Q : VK} {E : XK} (h : sp_empty K A vs H Q E) : t_empty K A { nx := fun _ H' => Q .non H', rt := Q } (start ["size", "data"] vs) H := by
  obtain ⟨u, rfl, u1, u2, k⟩ := h
  show t_empty K A _ [some (.int (8 * u : Nat)), none] H
  unfold t_empty
  have hL : Led K H [] H [] [] := Led.start
  walk_at "gs"
  rename_i z0 H1 nz0 h1
  refine h_rep 0 h1 rfl (by omega) (by omega) fun p H2 np h2 => ?_
  rw [Int.toNat_natCast] at h2
  walk_at "gs"
  rw [show ((8 * u : Nat) : Int) / 8 = (u : Int) by omega]
  refine h_wrword 0 h2 rfl (by decide) (by decide) (by decide) (by rw [List.length_replicate]; omega) np fun H3 h3 => ?_
  have e : put (List.replicate (8 * u) 0) (Int.toNat 0) (Int.toNat 2) false (u : Int) = wr [freeB u] := by
    show putSeg (List.replicate (8 * u) 0) 0 (dg 256 2 (u : Int)) = _
    have q := putSeg_over (ds := List.replicate (8 * u) 0) (s := List.replicate (8 * u) 0) (t := dg 256 2 (u : Int)) (o := 0) (by simp) (by rw [dg_len, List.length_replicate]; omega)
    have z : putSeg (List.replicate (8 * u) (0 : Int)) 0 (List.replicate (8 * u) 0) = List.replicate (8 * u) 0 := by
      unfold putSeg
      rw [List.take_zero, List.nil_append, List.drop_eq_nil_of_le (by simp), List.append_nil]
    rw [z] at q
    rw [q, dg_len, List.drop_replicate, wr_cons, wr_nil, List.append_nil, freeB_bb u1 (by omega)]
    unfold putSeg
    rw [List.take_zero, List.nil_append, List.drop_eq_nil_of_le (by rw [List.length_append, dg_len, List.length_replicate, List.length_replicate]; omega), List.append_nil]
  rw [e] at h3
  walk_at "gs"
  exact k p H3 (KBs.same h3.kp) (np.elim id fun z => nomatch z) (h3.raw 0 rfl)

/-! ### the law's rows -/
abbrev RB := List (Addr × Addr × Blk)
def rowL (x : Addr × Addr × Blk) : List V := [.int x.2.2.u, .int x.2.2.k, .int x.2.2.v, .int x.2.2.n, .ref x.2.1]
def rbV (rs : RB) : List V := rs.map fun x => .ref x.1
def rbE (rs : RB) : List (Addr × Ent) := rs.flatMap fun x => [(x.1, .raw (.lst (rowL x))), (x.2.1, .raw (.lst (x.2.2.body.map V.int)))]
def blk (rs : RB) : List Blk := rs.map (·.2.2)
theorem rbE_app (a b : RB) : rbE (a ++ b) = rbE a ++ rbE b := List.flatMap_append
theorem rbE_cons (x : Addr × Addr × Blk) (a : RB) : rbE (x :: a) = (x.1, .raw (.lst (rowL x))) :: (x.2.1, .raw (.lst (x.2.2.body.map V.int))) :: rbE a := rfl
theorem rbV_app (a b : RB) : rbV (a ++ b) = rbV a ++ rbV b := List.map_append
theorem blk_app (a b : RB) : blk (a ++ b) = blk a ++ blk b := List.map_append
/-- the rows stand -/
structure RowsAt (H : Hp) (rp : Addr) (rs : RB) : Prop where
  l : H rp = some (.lst (rbV rs))
  r : ∀ x ∈ rs, H x.1 = some (.lst (rowL x)) ∧ H x.2.1 = some (.lst (x.2.2.body.map V.int))
theorem RowsAt.same {H H' : Hp} {rp : Addr} {rs : RB} (h : RowsAt H rp rs) (s : Same H H') : RowsAt H' rp rs := ⟨s _ _ h.l, fun x hx => ⟨s _ _ (h.r x hx).1, s _ _ (h.r x hx).2⟩⟩
theorem RowsAt.get {H : Hp} {rp : Addr} {rs : RB} (h : RowsAt H rp rs) {j : Nat} {x : Addr × Addr × Blk} (e : rs[j]? = some x) : H x.1 = some (.lst (rowL x)) ∧ H x.2.1 = some (.lst (x.2.2.body.map V.int)) := h.r x (List.mem_of_getElem? e)
theorem rbV_get {rs : RB} {j : Nat} {v : V} (h : (rbV rs)[j]? = some v) : ∃ x, rs[j]? = some x ∧ v = .ref x.1 := by
  unfold rbV at h
  rw [List.getElem?_map] at h
  obtain ⟨x, hx, e⟩ := Option.map_eq_some_iff.mp h
  exact ⟨x, hx, e.symm⟩
theorem blk_get {rs : RB} {j : Nat} {x : Addr × Addr × Blk} (h : rs[j]? = some x) : (blk rs)[j]? = some x.2.2 := by
  unfold blk
  rw [List.getElem?_map, h]
  rfl
theorem blk_len (rs : RB) : (blk rs).length = rs.length := List.length_map _
def sp__law_units (K : PySem.W.Frag) (A : Ad) : Sp := fun vs H Q _ => ∃ (rp : Addr) (rs : RB), vs = [.ref rp] ∧ RowsAt H rp rs ∧ rs.length ≤ 1000 ∧ ∀ H', Same H H' → Q (.int (unt (blk rs))) H'
def sp__law_offsets (K : PySem.W.Frag) (A : Ad) : Sp := fun vs H Q _ => ∃ (rp : Addr) (rs : RB), vs = [.ref rp] ∧ RowsAt H rp rs ∧ rs.length ≤ 1000 ∧ ∀ p H', Same H H' → H p = none → H' p = some (.lst ((offs (blk rs)).map V.int)) → Q (.ref p) H'
def sp__law_written (K : PySem.W.Frag) (A : Ad) : Sp := fun vs H Q _ => ∃ (rp : Addr) (rs : RB), vs = [.ref rp] ∧ RowsAt H rp rs ∧ BOk (blk rs) ∧ ∀ p H', Same H H' → H p = none → H' p = some (.lst ((wr (blk rs)).map V.int)) → Q (.ref p) H'
theorem sumU (l : List Blk) : (l.map fun r => (r.u : Int)).sum = ((unt l : Nat) : Int) := by
  induction l with
  | nil => rfl
  | cons r l ih =>
    rw [List.map_cons, List.sum_cons, ih, unt_cons]
    omega
theorem h_catF {K : PySem.W.Frag} {H0 H : Hp} {S : List Addr} {L : List (Addr × Ent)} {I : List (V × PyData)} {Q : VK} (n : Nat) (h : Led K H0 S H L I) {a b : Addr} {xs ys : List Int} (e : L[n]? = some (a, .raw (.lst (xs.map V.int)))) (e2 : H b = some (.lst (ys.map V.int))) (z : xs.length + ys.length ≤ sizeLine)
    (k : ∀ p H', (H0 p = none ∨ p ∈ S) → Led K H0 S H' ((p, .raw (.lst ((xs ++ ys).map V.int))) :: L) I → Q (.ref p) H') : hAdd K (.ref a) (.ref b) H Q :=
  .inl ⟨a, b, _, _, rfl, rfl, h.raw n e, e2, by rw [List.length_map, List.length_map]; exact z, fun p hp => by
    rw [← List.map_append]
    exact k p _ (h.fr hp) (h.alloc hp)⟩

def t__law_units (K : PySem.W.Frag) (A : Ad) : TS :=
  (tRet (tCB (rSum K) (tCons (tLc (jL K (mV 0)) (gName 1) tYes (tOp (rIx K) (mV 1) (tC (.int 0))) [1]) tNil)))
theorem rd__law_units {K : PySem.W.Frag} {A : Ad} {vs : List V} {H : Hp} {Q : VK} {E : XK} (h : sp__law_units K A vs H Q E) : t__law_units K A { nx := fun _ H' => Q .non H', rt := Q } (start ["_law_rows", "_law_row"] vs) H := by
  obtain ⟨rp, rs, rfl, hr, hl, k⟩ := h
  show t__law_units K A _ [some (.ref rp), none] H
  unfold t__law_units
  have hL : Led K H [] H [(rp, .raw (.lst (rbV rs)))] [] := Led.mk1 hr.l
  walk_at "gs"
  refine lcL hL (fun p i H2 => (H p = none ∨ p ∈ []) ∧ Led K H [] H2 [(p, .raw (.lst ((((blk rs).take i).map fun r => (r.u : Int)).map V.int))), (rp, .raw (.lst (rbV rs)))] [])
    (fun p H2 np h2 => ⟨np, h2⟩) (fun p i H2 _ ⟨_, h2⟩ => h2.sqL 1 rfl) ?_ ?_
  · rintro p i x H2 hx ⟨np, h2⟩
    obtain ⟨y, hy, rfl⟩ := rbV_get hx
    have hq := (hr.same (KBs.same h2.kp)).get hy
    walk_at "gs"
    refine h_ixQ (SqL.of hq.1) rfl ?_
    obtain ⟨hi, _⟩ := List.getElem?_eq_some_iff.mp hy
    obtain ⟨acc, a1, a2, a3⟩ := h_accL (y := .int y.2.2.u) 0 h2 rfl np (by rw [List.length_map, List.length_map, List.length_take, blk_len, sizeLine_eq]; omega)
    refine ⟨acc, a1, a2, np, ?_⟩
    rw [List.take_add_one, blk_get hy, List.map_append]
    rw [map_snoc] at a3
    exact a3
  · rintro p H2 ⟨np, h2⟩
    refine ⟨p, _, rfl, h2.sqL 0 rfl, ?_⟩
    rw [show (rbV rs).length = (blk rs).length by unfold rbV; rw [List.length_map, blk_len], List.take_of_length_le (Nat.le_refl _), sumU]
    exact k H2 (KBs.same h2.kp)
def t__law_offsets (K : PySem.W.Frag) (A : Ad) : TS :=
  (tSeq (tAsg (tLst tNil) (gName 1))
  (tSeq (tAsg (tC (.int 0)) (gName 2))
  (tSeq (tFor (jL K (mV 0)) (gName 3)
    (tSeq (tDrop (tBM K "list" rAppend (mV 1) (tCons (mV 2) tNil)))
  (tAsg (tOp (mAdd K) (mV 2) (tOp mMul (tC (.int 8)) (tOp (rIx K) (mV 3) (tC (.int 0))))) (gName 2))))
  (tRet (mV 1)))))
theorem rd__law_offsets {K : PySem.W.Frag} {A : Ad} {vs : List V} {H : Hp} {Q : VK} {E : XK} (h : sp__law_offsets K A vs H Q E) : t__law_offsets K A { nx := fun _ H' => Q .non H', rt := Q } (start ["_law_rows", "_law_found", "_law_at", "_law_row"] vs) H := by
  obtain ⟨rp, rs, rfl, hr, hl, k⟩ := h
  show t__law_offsets K A _ [some (.ref rp), none, none, none] H
  unfold t__law_offsets
  have hL : Led K H [] H [(rp, .raw (.lst (rbV rs)))] [] := Led.mk1 hr.l
  walk_at "gs"
  rename_i p H1 np h1
  refine lpL (xs := rbV rs) (fun i σ H2 => ∃ y3 : Option V, σ = [some (.ref rp), some (.ref p), some (.int (offn (blk rs) i)), y3] ∧ Led K H [] H2 [(p, .raw (.lst (((List.range i).map fun j => (offn (blk rs) j : Int)).map V.int))), (rp, .raw (.lst (rbV rs)))] [])
    ⟨_, rfl, h1⟩ (fun i σ H2 _ ⟨_, _, h2⟩ => h2.sqL 1 rfl) ?_ ?_
  · clear h1
    rintro i x σ H2 hx ⟨y3, rfl, h2⟩
    obtain ⟨y, hy, rfl⟩ := rbV_get hx
    have hq := (hr.same (KBs.same h2.kp)).get hy
    obtain ⟨hi, _⟩ := List.getElem?_eq_some_iff.mp hy
    walk_at "gs"
    refine h_appI 0 h2 rfl np (by rw [List.length_map, List.length_range, sizeLine_eq]; omega) fun H3 h3 => ?_
    have hq3 := (hr.same (KBs.same h3.kp)).get hy
    walk_at "gs"
    refine h_ixQ (SqL.of hq3.1) rfl ?_
    walk_at "gs"
    refine ⟨some (.ref y.1), ?_, ?_⟩
    · rw [offn_succ (blk_get hy)]
      exact congrArg (fun z : Int => [some (V.ref rp), some (V.ref p), some (.int z), some (V.ref y.1)]) (by omega)
    · rw [List.range_succ, List.map_append]
      exact h3
  · rintro σ H2 ⟨y3, rfl, h2⟩
    walk_at "gs"
    refine k p H2 (KBs.same h2.kp) (np.elim id fun z => nomatch z) ?_
    unfold offs
    rw [blk_len, show rs.length = (rbV rs).length by unfold rbV; rw [List.length_map]]
    exact h2.raw 0 rfl

def t__law_written (K : PySem.W.Frag) (A : Ad) : TS :=
  (tSeq (tAsg (tLst tNil) (gName 1))
  (tSeq (tFor (jL K (mV 0)) (gLst K 5 (mGc (gName 2) (mGc (gName 3) (mGc (gName 4) (mGc (gName 5) (mGc (gName 6) mGn))))))
    (tSeq (tAsg (tLst (tCons (tOp mMod (tCB mInt (tCons (mV 2) tNil)) (tC (.int 256))) (tCons (tOp mFdiv (mV 2) (tC (.int 256))) (tCons (mV 3) (tCons (mV 4) tNil))))) (gName 7))
  (tSeq (tFor (jR1 (tCons (tC (.int 4)) tNil)) (gName 8)
    (tSeq (tDrop (tBM K "list" rAppend (mV 7) (tCons (tOp mMod (tCB mInt (tCons (mV 5) tNil)) (tC (.int 256))) tNil)))
  (tAsg (tOp mFdiv (mV 5) (tC (.int 256))) (gName 5))))
  (tAsg (tOp (mAdd K) (tOp (mAdd K) (tOp (mAdd K) (mV 1) (mV 7)) (mV 6)) (tOp mMul (tLst (tCons (tC (.int 0)) tNil)) (tOp mSub (tOp mSub (tOp mMul (tC (.int 8)) (mV 2)) (tC (.int 8))) (tCB (hLen K) (tCons (mV 6) tNil))))) (gName 1)))))
  (tRet (mV 1))))
theorem rd__law_written {K : PySem.W.Frag} {A : Ad} {vs : List V} {H : Hp} {Q : VK} {E : XK} (h : sp__law_written K A vs H Q E) : t__law_written K A { nx := fun _ H' => Q .non H', rt := Q } (start ["_law_rows", "_law_found", "_law_units_here", "_law_kind", "_law_version", "_law_number", "_law_body_here", "_law_head", "_law_k"] vs) H := by
  obtain ⟨rp, rs, rfl, hr, ok, k⟩ := h
  show t__law_written K A _ [some (.ref rp), none, none, none, none, none, none, none, none] H
  unfold t__law_written
  have hL : Led K H [] H [(rp, .raw (.lst (rbV rs)))] [] := Led.mk1 hr.l
  have hu := ok.2
  walk_at "gs"
  rename_i p H1 np h1
  refine lpL (xs := rbV rs) (fun i σ H2 => ∃ (fp : Addr) (y2 y3 y4 y5 y6 y7 y8 : Option V), (H fp = none ∨ fp ∈ []) ∧ σ = [some (.ref rp), some (.ref fp), y2, y3, y4, y5, y6, y7, y8] ∧ Led K H [] H2 [(fp, .raw (.lst ((wr ((blk rs).take i)).map V.int))), (rp, .raw (.lst (rbV rs)))] [])
    ⟨p, _, _, _, _, _, _, _, np, rfl, h1⟩ (fun i σ H2 _ ⟨_, _, _, _, _, _, _, _, _, _, h2⟩ => h2.sqL 1 rfl) ?_ ?_
  · clear h1
    rintro i x σ H2 hx ⟨fp, y2, y3, y4, y5, y6, y7, y8, nfp, rfl, h2⟩
    obtain ⟨y, hy, rfl⟩ := rbV_get hx
    have hq := (hr.same (KBs.same h2.kp)).get hy
    have hb := blk_get hy
    have ub := ok.u hb
    have okr := ok.get hb
    have bl := okr.b1
    have u1 := okr.u1
    have ut := unt_le hb
    have wl := wr_len (rs := (blk rs).take i) fun x hx => ok.1 x (List.mem_of_mem_take hx)
    walk_at "gs"
    refine ⟨y.1, _, rfl, SqL.of hq.1, rfl, ?_⟩
    unfold rowL
    walk_at "gs"
    rename_i hp H3 nhp h3
    have h3 : Led K H [] H3 [(hp, .raw (.lst (([((y.2.2.u % 256 : Nat) : Int), ((y.2.2.u / 256 : Nat) : Int), (y.2.2.k : Int), (y.2.2.v : Int)] ++ dg 256 0 (y.2.2.n : Int)).map V.int))), (fp, .raw (.lst ((wr ((blk rs).take i)).map V.int))), (rp, .raw (.lst (rbV rs)))] [] := h3
    refine lpR (fun t σ H4 => ∃ y8 : Option V, σ = [some (.ref rp), some (.ref fp), some (.int y.2.2.u), some (.int y.2.2.k), some (.int y.2.2.v), some (.int ((y.2.2.n : Int) / 256 ^ t)), some (.ref y.2.1), some (.ref hp), y8] ∧
      Led K H [] H4 [(hp, .raw (.lst (([((y.2.2.u % 256 : Nat) : Int), ((y.2.2.u / 256 : Nat) : Int), (y.2.2.k : Int), (y.2.2.v : Int)] ++ dg 256 t (y.2.2.n : Int)).map V.int))), (fp, .raw (.lst ((wr ((blk rs).take i)).map V.int))), (rp, .raw (.lst (rbV rs)))] []) ⟨_, by rw [Int.pow_zero, Int.ediv_one], h3⟩ ?_ ?_
    · clear h2 h3
      rintro t σ H4 ht ⟨y8, rfl, h4⟩
      have ht4 : t < 4 := ht
      walk_at "gs"
      refine h_appI 0 h4 rfl nhp (by rw [List.length_append, dg_len, sizeLine_eq]; show 4 + t < _; omega) fun H5 h5 => ?_
      rw [List.append_assoc, ← dg_snoc (by decide)] at h5
      walk_at "gs"
      refine ⟨some (.int (0 + t)), ?_, h5⟩
      rw [Int.pow_succ, ← Int.ediv_ediv_of_nonneg (Int.le_of_lt (Int.pow_pos (by decide)))]
    · clear h2 h3
      rintro σ H4 ⟨y8, rfl, h4⟩
      have h4 : Led K H [] H4 [(hp, .raw (.lst (y.2.2.head.map V.int))), (fp, .raw (.lst ((wr ((blk rs).take i)).map V.int))), (rp, .raw (.lst (rbV rs)))] [] := h4
      have hl8 := head_len y.2.2
      have hq4 := (hr.same (KBs.same h4.kp)).get hy
      walk_at "gs"
      refine h_cat 1 0 h4 rfl rfl (by rw [wl, hl8, sizeLine_eq]; omega) fun f1 H5 nf1 h5 => ?_
      have hq5 := (hr.same (KBs.same h5.kp)).get hy
      walk_at "gs"
      refine h_catF 0 h5 rfl hq5.2 (by rw [List.length_append, wl, hl8, sizeLine_eq]; omega) fun f2 H6 nf2 h6 => ?_
      walk_at "gs"
      rename_i z0 H7 nz0 h7
      have hq7 := (hr.same (KBs.same h7.kp)).get hy
      refine h_lenQ (SqL.of hq7.2) ?_
      walk_at "gs"
      rw [List.length_map, show 8 * (y.2.2.u : Int) - 8 - (y.2.2.body.length : Int) = ((8 * y.2.2.u - 8 - y.2.2.body.length : Nat) : Int) by omega]
      refine h_rep 0 h7 rfl (by omega) (by omega) fun z1 H8 nz1 h8 => ?_
      rw [Int.toNat_natCast] at h8
      walk_at "gs"
      refine h_cat 2 0 h8 rfl rfl (by rw [List.length_append, List.length_append, wl, hl8, List.length_replicate, sizeLine_eq]; omega) fun f3 H9 nf3 h9 => ?_
      walk_at "gs"
      refine ⟨f3, _, _, _, _, _, _, _, nf3, rfl, ?_⟩
      have e : wr ((blk rs).take i) ++ y.2.2.head ++ y.2.2.body ++ List.replicate (8 * y.2.2.u - 8 - y.2.2.body.length) 0 = wr ((blk rs).take (i + 1)) := by
        rw [List.take_add_one, hb, wr_app]
        show _ = _ ++ wr [y.2.2]
        rw [wr_cons, wr_nil, List.append_nil]
        unfold Blk.bb
        rw [List.append_assoc, List.append_assoc]
      rw [e] at h9
      exact h9.pick [0, 7]
  · rintro σ H2 ⟨fp, y2, y3, y4, y5, y6, y7, y8, nfp, rfl, h2⟩
    walk_at "gs"
    rw [show (rbV rs).length = (blk rs).length by unfold rbV; rw [List.length_map, blk_len], List.take_of_length_le (Nat.le_refl _)] at h2
    exact k fp H2 (KBs.same h2.kp) (nfp.elim id fun z => nomatch z) (h2.raw 0 rfl)

section
variable {K : PySem.W.Frag} {H0 H : Hp} {S : List Addr} {I : List (V × PyData)} {L A T : List (Addr × Ent)}
theorem Led.memL (h : Led K H0 S H L I) {L' : List (Addr × Ent)} (hn : (L'.map (·.1)).Nodup) (hm : ∀ e ∈ L', e ∈ L) : Led K H0 S H L' I :=
  ⟨hn, fun n a e q => by
    obtain ⟨i, hi, hi2⟩ := List.getElem_of_mem (hm (a, e) (List.mem_of_getElem? q))
    exact h.at_ i a e (by rw [List.getElem?_eq_getElem hi, hi2]), h.im, h.kp⟩
theorem Led.perm (h : Led K H0 S H L I) {L' : List (Addr × Ent)} (p : L.Perm L') : Led K H0 S H L' I :=
  h.memL ((p.map _).nodup_iff.mp h.nd) fun e he => p.mem_iff.mpr he
theorem Led.pickT (h : Led K H0 S H (A ++ T) I) (f : List Nat) (hf : f.Nodup := by decide) (hb : (f.all fun n => decide (n < A.length)) = true := by rfl) : Led K H0 S H (pickL f A ++ T) I := by
  have hb' : ∀ n ∈ f, n < A.length := fun n hn => of_decide_eq_true (List.all_eq_true.mp hb n hn)
  have mem : ∀ e ∈ pickL f A, e ∈ A := fun e he => by
    obtain ⟨n, hn, rfl⟩ := List.mem_map.mp he
    rw [List.getElem?_eq_getElem (hb' n hn)]
    exact List.getElem_mem _
  refine h.memL ?_ fun e he => ?_
  · have q := h.nd
    rw [List.map_append] at q ⊢
    obtain ⟨q1, q2, q3⟩ := List.nodup_append.mp q
    refine List.nodup_append.mpr ⟨((h.pre [] [] fun n v d z => by simp at z).pick f hf hb).nd, q2, fun a ha b hb2 => ?_⟩
    obtain ⟨e, he, rfl⟩ := List.mem_map.mp ha
    exact q3 _ (List.mem_map.mpr ⟨e, mem e he, rfl⟩) b hb2
  · rcases List.mem_append.mp he with he | he
    · exact List.mem_append_left _ (mem e he)
    · exact List.mem_append_right _ he
theorem Led.hd (h : Led K H0 S H (A ++ T) I) : Led K H0 S H A I :=
  h.memL (by have q := h.nd; rw [List.map_append] at q; exact (List.nodup_append.mp q).1) fun e he => List.mem_append_left _ he
theorem Led.sub (h : Led K H0 S H L I) {L' : List (Addr × Ent)} (s : L'.Sublist L) : Led K H0 S H L' I :=
  h.memL ((s.map _).nodup h.nd) fun e he => s.subset he
theorem Led.of (h : Led K H0 S H L I) {a : Addr} {o : HO} (hm : (a, Ent.raw o) ∈ L) : H a = some o := by
  obtain ⟨i, hi, hi2⟩ := List.getElem_of_mem hm
  exact h.raw i (by rw [List.getElem?_eq_getElem hi, hi2])
end

theorem fr_n {r : Blk} (ok : r.Ok) : (r.n = 0) ↔ r.fr = true := by
  unfold Blk.fr
  constructor
  · intro h
    by_cases hk : r.k = 0
    · rw [hk]
      rfl
    · exact absurd h (ok.f2 hk).1
  · intro h
    rw [ok.f1 (beq_iff_eq.mp h)]
    rfl
def keysOk (K : PySem.W.Frag) (H : Hp) (rs rs' : RB) : Prop := ∀ e ∈ rbE rs', e.1 ∈ (rbE rs).map (·.1) ∨ H e.1 = none
def sp__law_joined (K : PySem.W.Frag) (A : Ad) : Sp := fun vs H Q _ => ∃ (rp : Addr) (rs : RB), vs = [.ref rp] ∧ Led K H [] H ((rp, .raw (.lst (rbV rs))) :: rbE rs) [] ∧ BOk (blk rs) ∧
  ∀ p rs' H', blk rs' = joined (blk rs) → H p = none → keysOk K H rs rs' → Led K H [] H' ((p, .raw (.lst (rbV rs'))) :: rbE rs') [] → Q (.ref p) H'
theorem last_rb {acc : RB} (h : acc ≠ []) : ∃ init l, acc = init ++ [l] := ⟨acc.dropLast, acc.getLast h, (List.dropLast_concat_getLast h).symm⟩
theorem ixN_last (n : Nat) : ixN (n + 1) (-1) = some n := by
  unfold ixN
  rw [if_neg (by decide), if_pos (by omega)]
  exact congrArg some (by omega)
theorem at_last {xs : List V} {v : V} : atI (xs ++ [v]) (-1) = some v := by
  unfold atI
  rw [List.length_append, List.length_singleton, ixN_last]
  show (xs ++ [v])[xs.length]? = some v
  rw [List.getElem?_append_right (Nat.le_refl _), Nat.sub_self]
  rfl
theorem set_last {α : Type} (xs : List α) (v w : α) : (xs ++ [v]).set xs.length w = xs ++ [w] := by
  rw [List.set_append_right _ _ (Nat.le_refl _), Nat.sub_self]
  rfl
theorem rbE_mem {rs : RB} {y : Addr × Addr × Blk} (h : y ∈ rs) : ∀ e ∈ rbE [y], e ∈ rbE rs := fun e he => by
  have he : e ∈ [(y.1, Ent.raw (.lst (rowL y))), (y.2.1, .raw (.lst (y.2.2.body.map V.int)))] := he
  exact List.mem_flatMap.mpr ⟨y, h, he⟩
theorem swap_mid {α : Type} (a b : α) (P Q : List α) : (a :: (P ++ b :: Q)).Perm (b :: (P ++ a :: Q)) :=
  ((List.perm_middle.cons a).trans (List.Perm.swap b a (P ++ Q))).trans (List.perm_middle.symm.cons b)
section
variable {K : PySem.W.Frag} {H0 H : Hp} {S : List Addr} {L : List (Addr × Ent)} {I : List (V × PyData)} {Q : VK} {a : Addr} {xs : List V} {fp rp p' np nb : Addr} {ef er : Ent} {acc init : RB} {y l : Addr × Addr × Blk} {T : List (Addr × Ent)}
theorem h_listOfF (h : Led K H0 S H L I) (e : H a = some (.lst xs)) (k : ∀ p H', (H0 p = none ∨ p ∈ S) → Led K H0 S H' ((p, .raw (.lst xs)) :: L) I → Q (.ref p) H') : hListOf K [.ref a] H Q :=
  ⟨a, xs, rfl, .inl (SqL.of e), fun p hp => k p _ (h.fr hp) (h.alloc hp)⟩
/-- a row copied -/
theorem rb_copy (h : Led K H0 S H ((p', .raw (.lst (rowL y))) :: (fp, ef) :: (rp, er) :: (rbE acc ++ ((y.1, .raw (.lst (rowL y))) :: (y.2.1, .raw (.lst (y.2.2.body.map V.int))) :: T))) I) : Led K H0 S H ((fp, ef) :: (rp, er) :: (rbE (acc ++ [(p', y.2)]) ++ T)) I := by
  have q := (h.perm (swap_mid (p', .raw (.lst (rowL y))) (y.1, .raw (.lst (rowL y))) ((fp, ef) :: (rp, er) :: rbE acc) ((y.2.1, .raw (.lst (y.2.2.body.map V.int))) :: T))).tlL
  rw [rbE_app, List.append_assoc]
  exact q
/-- two free rows become one -/
theorem rb_join {u : Nat} (h : Led K H0 S H ((np, .raw (.lst (rowL (np, nb, freeB u)))) :: (nb, .raw (.lst [])) :: (fp, ef) :: (rp, er) :: (rbE (init ++ [l]) ++ ((y.1, .raw (.lst (rowL y))) :: (y.2.1, .raw (.lst (y.2.2.body.map V.int))) :: T))) I) : Led K H0 S H ((fp, ef) :: (rp, er) :: (rbE (init ++ [(np, nb, freeB u)]) ++ T)) I := by
  rw [rbE_app, List.append_assoc] at h
  have q1 := (h.perm (swap_mid (np, .raw (.lst (rowL (np, nb, freeB u)))) (l.1, .raw (.lst (rowL l))) ((nb, .raw (.lst [])) :: (fp, ef) :: (rp, er) :: rbE init) ((l.2.1, .raw (.lst (l.2.2.body.map V.int))) :: (y.1, .raw (.lst (rowL y))) :: (y.2.1, .raw (.lst (y.2.2.body.map V.int))) :: T))).tlL
  have q1 : Led K H0 S H ((nb, .raw (.lst [])) :: (((fp, ef) :: (rp, er) :: (rbE init ++ [(np, .raw (.lst (rowL (np, nb, freeB u))))])) ++ (l.2.1, .raw (.lst (l.2.2.body.map V.int))) :: (y.1, .raw (.lst (rowL y))) :: (y.2.1, .raw (.lst (y.2.2.body.map V.int))) :: T)) I := by
    rw [List.cons_append, List.cons_append, List.append_assoc]
    exact q1
  have q2 := (q1.perm (swap_mid _ _ _ _)).tlL
  rw [List.cons_append, List.cons_append, List.append_assoc] at q2
  rw [rbE_app, List.append_assoc]
  refine q2.sub (((List.Sublist.append_left ?_ _).cons₂ _).cons₂ _)
  exact (((List.Sublist.refl T).cons _).cons _).cons₂ _ |>.cons₂ _
end

def t__law_joined (K : PySem.W.Frag) (A : Ad) : TS :=
  (tSeq (tAsg (tLst tNil) (gName 1))
  (tSeq (tFor (jL K (mV 0)) (gName 2)
    (mIf (tAnd (mTest (tOp (mEq K) (tOp (rIx K) (mV 2) (tC (.int 3))) (tC (.int 0)))) (tAnd (mTest (tOp mGt (tCB (hLen K) (tCons (mV 1) tNil)) (tC (.int 0)))) (mTest (tOp (mEq K) (tOp (rIx K) (tOp (rIx K) (mV 1) (tUn mNeg (tC (.int 1)))) (tC (.int 3))) (tC (.int 0))))))
    (tAsg (tLst (tCons (tOp (mAdd K) (tOp (rIx K) (tOp (rIx K) (mV 1) (tUn mNeg (tC (.int 1)))) (tC (.int 0))) (tOp (rIx K) (mV 2) (tC (.int 0)))) (tCons (tC (.int 0)) (tCons (tC (.int 0)) (tCons (tC (.int 0)) (tCons (tLst tNil) tNil)))))) (gSub (mV 1) (tUn mNeg (tC (.int 1))) rSetL))
    (tDrop (tBM K "list" rAppend (mV 1) (tCons (tCB (hListOf K) (tCons (mV 2) tNil)) tNil)))))
  (tRet (mV 1))))
theorem rd__law_joined {K : PySem.W.Frag} {A : Ad} {vs : List V} {H : Hp} {Q : VK} {E : XK} (h : sp__law_joined K A vs H Q E) : t__law_joined K A { nx := fun _ H' => Q .non H', rt := Q } (start ["_law_rows", "_law_found", "_law_row"] vs) H := by
  obtain ⟨rp, rs, rfl, hL, ok, k⟩ := h
  show t__law_joined K A _ [some (.ref rp), none, none] H
  unfold t__law_joined
  have hll := len_le ok.1
  have hu := ok.2
  rw [blk_len] at hll
  walk_at "gs"
  rename_i fp H1 nfp h1
  refine lpL (xs := rbV rs) (fun i σ H2 => ∃ (acc : RB) (y2 : Option V), σ = [some (.ref rp), some (.ref fp), y2] ∧ blk acc = joined ((blk rs).take i) ∧ acc.length ≤ i ∧ (∀ e ∈ rbE acc, e.1 ∈ (rbE rs).map (·.1) ∨ H e.1 = none) ∧
      Led K H [] H2 ((fp, .raw (.lst (rbV acc))) :: (rp, .raw (.lst (rbV rs))) :: (rbE acc ++ rbE (rs.drop i))) [])
    ⟨[], _, rfl, rfl, Nat.le_refl _, fun e he => (nomatch he), h1⟩ (fun i σ H2 _ ⟨_, _, _, _, _, _, h2⟩ => h2.sqL 1 rfl) ?_ ?_
  · clear h1
    rintro i x σ H2 hx ⟨acc, y2, rfl, hacc, hal, hky, h2⟩
    obtain ⟨y, hy, rfl⟩ := rbV_get hx
    obtain ⟨hi, hye⟩ := List.getElem?_eq_some_iff.mp hy
    have hb := blk_get hy
    have okr := ok.get hb
    have hd : rs.drop i = y :: rs.drop (i + 1) := by rw [List.drop_eq_getElem_cons hi, hye]
    have hj := joined_snoc hb
    rw [hd, rbE_cons] at h2
    have hrow : ∀ {H' : Hp} {X : List (Addr × Ent)}, Led K H [] H' (X ++ ((fp, .raw (.lst (rbV acc))) :: (rp, .raw (.lst (rbV rs))) :: (rbE acc ++ ((y.1, .raw (.lst (rowL y))) :: (y.2.1, .raw (.lst (y.2.2.body.map V.int))) :: rbE (rs.drop (i + 1)))))) [] → H' y.1 = some (.lst (rowL y)) := fun hh => hh.of (List.mem_append_right _ (List.mem_cons_of_mem _ (List.mem_cons_of_mem _ (List.mem_append_right _ List.mem_cons_self))))
    have keepy : ∀ e ∈ rbE [y], e.1 ∈ (rbE rs).map (·.1) ∨ H e.1 = none := fun e he => .inl (List.mem_map.mpr ⟨e, rbE_mem (List.mem_of_getElem? hy) e he, rfl⟩)
    have el : ∀ {p : Addr}, (H p = none ∨ p ∈ []) → H p = none := fun z => z.elim id fun z => nomatch z
    have app : jstep (joined ((blk rs).take i)) y.2.2 = joined ((blk rs).take i) ++ [y.2.2] → hListOf K [.ref y.1] H2 fun x H1 => rAppend (.ref fp) [x] H1 fun x H1 => ∃ (acc : RB) (y2 : Option V), ([some (.ref rp), some (.ref fp), some (.ref y.1)] : L2.St) = [some (.ref rp), some (.ref fp), y2] ∧ blk acc = joined ((blk rs).take (i + 1)) ∧ acc.length ≤ i + 1 ∧ (∀ e ∈ rbE acc, e.1 ∈ (rbE rs).map (·.1) ∨ H e.1 = none) ∧
        Led K H [] H1 ((fp, .raw (.lst (rbV acc))) :: (rp, .raw (.lst (rbV rs))) :: (rbE acc ++ rbE (rs.drop (i + 1)))) [] := fun js => by
      refine h_listOfF h2 (hrow (X := []) h2) fun p' H3 np' h3 => ?_
      refine h_append 1 h3 rfl nfp (by unfold rbV; rw [List.length_map, sizeLine_eq]; omega) fun H4 h4 => ?_
      refine ⟨acc ++ [(p', y.2)], _, rfl, ?_, ?_, fun e he => ?_, ?_⟩
      · rw [blk_app, hacc, hj, js]
        rfl
      · rw [List.length_append, List.length_singleton]
        omega
      · rw [rbE_app] at he
        rcases List.mem_append.mp he with he | he
        · exact hky e he
        · rcases List.mem_cons.mp he with rfl | he
          · exact .inr (el np')
          · exact keepy e (List.mem_cons_of_mem _ he)
      · rw [rbV_app]
        exact rb_copy h4
    walk_at "gs"
    refine h_ixQ (SqL.of (hrow (X := []) h2)) rfl ?_
    walk_at "gs"
    refine h_ite (fun c0 => ?_) (fun c0 => ?_)
    · have yf : y.2.2.fr = true := (fr_n okr).mp (by omega)
      walk_at "gs"
      refine h_ite (fun c1 => ?_) (fun c1 => ?_)
      · have hne : acc ≠ [] := fun z => by rw [z] at c1; exact absurd c1 (by decide)
        obtain ⟨init, l, rfl⟩ := last_rb hne
        have hlast : (joined ((blk rs).take i)).getLast? = some l.2.2 := by rw [← hacc, blk_app]; exact (getLast_snoc _ _).1
        have hdrop : (joined ((blk rs).take i)).dropLast = blk init := by rw [← hacc, blk_app]; exact (getLast_snoc _ _).2
        have okl : l.2.2.Ok := (joined_inv ok i (by rw [blk_len]; omega)).1 l.2.2 (by rw [← hacc, blk_app]; exact List.mem_append_right _ (List.mem_singleton.mpr rfl))
        have eV : rbV (init ++ [l]) = rbV init ++ [.ref l.1] := rbV_app _ _
        have hatl : atI (rbV (init ++ [l])) (-1) = some (.ref l.1) := by rw [eV]; exact at_last
        have hrowl : ∀ {H' : Hp} {X : List (Addr × Ent)}, Led K H [] H' (X ++ ((fp, .raw (.lst (rbV (init ++ [l])))) :: (rp, .raw (.lst (rbV rs))) :: (rbE (init ++ [l]) ++ ((y.1, .raw (.lst (rowL y))) :: (y.2.1, .raw (.lst (y.2.2.body.map V.int))) :: rbE (rs.drop (i + 1)))))) [] → H' l.1 = some (.lst (rowL l)) := fun hh => hh.of (List.mem_append_right _ (List.mem_cons_of_mem _ (List.mem_cons_of_mem _ (List.mem_append_left _ (by rw [rbE_app]; exact List.mem_append_right _ List.mem_cons_self)))))
        walk_at "gs"
        refine h_ixL 0 h2 rfl hatl ?_
        walk_at "gs"
        refine h_ixQ (SqL.of (hrowl (X := []) h2)) rfl ?_
        walk_at "gs"
        refine h_br (fun c2 => ?_) (fun c2 => ?_)
        · have lf : l.2.2.fr = true := (fr_n okl).mp (by omega)
          walk_at "gs"
          refine h_ixL 0 h2 rfl hatl ?_
          walk_at "gs"
          refine h_ixQ (SqL.of (hrowl (X := []) h2)) rfl ?_
          walk_at "gs"
          refine h_ixQ (SqL.of (hrow (X := []) h2)) rfl ?_
          walk_at "gs"
          rename_i nb H3 nnb h3 np H4 nnp h4
          have h5 : Led K H [] H4 ((np, .raw (.lst (rowL (np, nb, freeB (l.2.2.u + y.2.2.u))))) :: (nb, .raw (.lst [])) :: (fp, .raw (.lst (rbV (init ++ [l])))) :: (rp, .raw (.lst (rbV rs))) :: (rbE (init ++ [l]) ++ ((y.1, .raw (.lst (rowL y))) :: (y.2.1, .raw (.lst (y.2.2.body.map V.int))) :: rbE (rs.drop (i + 1))))) [] := h4
          have li : (rbV init).length = init.length := by unfold rbV; rw [List.length_map]
          have lx : (rbV (init ++ [l])).length = init.length + 1 := by unfold rbV; rw [List.length_map, List.length_append]; rfl
          refine h_setL 2 h5 rfl nfp (m := init.length) (by rw [lx]; exact ixN_last _) fun H5 h6 => ?_
          have es : (rbV (init ++ [l])).set init.length (.ref np) = rbV (init ++ [(np, nb, freeB (l.2.2.u + y.2.2.u))]) := by
            rw [eV, rbV_app, ← li]
            exact set_last _ _ _
          rw [es] at h6
          refine ⟨init ++ [(np, nb, freeB (l.2.2.u + y.2.2.u))], _, rfl, ?_, ?_, fun e he => ?_, rb_join h6⟩
          · rw [blk_app, hj, jstep_join hlast yf lf, hdrop]
            rfl
          · rw [List.length_append] at hal ⊢
            show init.length + 1 ≤ i + 1
            have : init.length + 1 ≤ i := hal
            omega
          · rw [rbE_app] at he
            rcases List.mem_append.mp he with he | he
            · exact hky e (by rw [rbE_app]; exact List.mem_append_left _ he)
            · rcases List.mem_cons.mp he with rfl | he
              · exact .inr (el nnp)
              · rcases List.mem_cons.mp he with rfl | he
                · exact .inr (el nnb)
                · exact nomatch he
        · walk_at "gs"
          exact app (jstep_last hlast (by
            cases z : l.2.2.fr with
            | false => rfl
            | true => exact absurd ((fr_n okl).mpr z) (by omega)))
      · walk_at "gs"
        refine app (jstep_none ?_)
        have : acc = [] := by
          cases acc with
          | nil => rfl
          | cons a t => exact absurd (show (0 : Int) < ((rbV (a :: t)).length : Nat) by unfold rbV; rw [List.length_map, List.length_cons]; omega) c1
        rw [← hacc, this]
        rfl
    · walk_at "gs"
      exact app (jstep_used (by
        cases z : y.2.2.fr with
        | false => rfl
        | true => exact absurd ((fr_n okr).mpr z) (by omega)))
  · rintro σ H2 ⟨acc, y2, rfl, hacc, hal, hky, h2⟩
    have e : (rbV rs).length = rs.length := by unfold rbV; rw [List.length_map]
    rw [e] at hacc h2
    rw [List.drop_length, show rbE [] = [] from rfl, List.append_nil] at h2
    rw [List.take_of_length_le (by rw [blk_len]; exact Nat.le_refl _)] at hacc
    walk_at "gs"
    exact k fp acc H2 hacc (nfp.elim id fun z => nomatch z) hky ((show Led K H [] H2 ([(fp, .raw (.lst (rbV acc))), (rp, .raw (.lst (rbV rs)))] ++ rbE acc) [] from h2).pickT [0])

theorem rowsAt_of {K : PySem.W.Frag} {H0 H : Hp} {S : List Addr} {L : List (Addr × Ent)} {I : List (V × PyData)} {p : Addr} {acc : RB} (h : Led K H0 S H L I) (h1 : (p, Ent.raw (.lst (rbV acc))) ∈ L) (h2 : ∀ e ∈ rbE acc, e ∈ L) : RowsAt H p acc :=
  ⟨h.of h1, fun x hx => ⟨h.of (h2 _ (List.mem_flatMap.mpr ⟨x, hx, List.mem_cons_self⟩)), h.of (h2 _ (List.mem_flatMap.mpr ⟨x, hx, List.mem_cons_of_mem _ List.mem_cons_self⟩))⟩⟩
def sp__law_together (K : PySem.W.Frag) (A : Ad) : Sp := fun vs H Q _ => ∃ (rp : Addr) (rs : RB), vs = [.ref rp, .int (unt (blk rs) : Nat)] ∧ Led K H [] H ((rp, .raw (.lst (rbV rs))) :: rbE rs) [] ∧ BOk (blk rs) ∧
  ∀ p rs' H', blk rs' = together (blk rs) → H p = none → keysOk K H rs rs' → Led K H [] H' ((p, .raw (.lst (rbV rs'))) :: rbE rs') [] → Q (.ref p) H'
theorem kept_len (l : List Blk) : (kept l).length ≤ l.length := List.length_filter_le _ _
theorem rb_drop {K : PySem.W.Frag} {H0 H : Hp} {S : List Addr} {I : List (V × PyData)} {fp rp : Addr} {ef er : Ent} {acc : RB} {y : Addr × Addr × Blk} {T : List (Addr × Ent)} (h : Led K H0 S H ((fp, ef) :: (rp, er) :: (rbE acc ++ ((y.1, .raw (.lst (rowL y))) :: (y.2.1, .raw (.lst (y.2.2.body.map V.int))) :: T))) I) : Led K H0 S H ((fp, ef) :: (rp, er) :: (rbE acc ++ T)) I :=
  h.sub (((List.Sublist.append_left (((List.Sublist.refl T).cons _).cons _) _).cons₂ _).cons₂ _)

def t__law_together (K : PySem.W.Frag) (A : Ad) : TS :=
  (tSeq (tAsg (tLc (jL K (mV 0)) (gName 4) (mTest (tOp (mNe K) (tOp (rIx K) (mV 4) (tC (.int 3))) (tC (.int 0)))) (tCB (hListOf K) (tCons (mV 4) tNil)) [4]) (gName 2))
  (tSeq (tAsg (tOp mSub (mV 1) (tCall (sp__law_units K A) [] E0 (tCons (mV 2) tNil))) (gName 3))
  (mCut (mIf (mTest (tOp mGt (mV 3) (tC (.int 0))))
    (tDrop (tBM K "list" rAppend (mV 2) (tCons (tLst (tCons (mV 3) (tCons (tC (.int 0)) (tCons (tC (.int 0)) (tCons (tC (.int 0)) (tCons (tLst tNil) tNil)))))) tNil)))
    tNext)
  (tRet (mV 2)))))
theorem rd__law_together {K : PySem.W.Frag} {A : Ad} {vs : List V} {H : Hp} {Q : VK} {E : XK} (h : sp__law_together K A vs H Q E) : t__law_together K A { nx := fun _ H' => Q .non H', rt := Q } (start ["_law_rows", "_law_units_here", "_law_kept", "_law_left", "_law_row"] vs) H := by
  obtain ⟨rp, rs, rfl, hL, ok, k⟩ := h
  show t__law_together K A _ [some (.ref rp), some (.int (unt (blk rs) : Nat)), none, none, none] H
  unfold t__law_together
  have hll := len_le ok.1
  have hu := ok.2
  rw [blk_len] at hll
  have el : ∀ {p : Addr}, (H p = none ∨ p ∈ []) → H p = none := fun z => z.elim id fun z => nomatch z
  walk_at "gs"
  refine lcL hL (fun p i H2 => ∃ acc : RB, (H p = none ∨ p ∈ []) ∧ blk acc = kept ((blk rs).take i) ∧ (∀ e ∈ rbE acc, e.1 ∈ (rbE rs).map (·.1) ∨ H e.1 = none) ∧
      Led K H [] H2 ((p, .raw (.lst (rbV acc))) :: (rp, .raw (.lst (rbV rs))) :: (rbE acc ++ rbE (rs.drop i))) [])
    (fun p H2 np h2 => ⟨[], np, rfl, fun e he => (nomatch he), h2⟩) (fun p i H2 _ ⟨_, _, _, _, h2⟩ => h2.sqL 1 rfl) ?_ ?_
  · rintro p i x H2 hx ⟨acc, np, hacc, hky, h2⟩
    obtain ⟨y, hy, rfl⟩ := rbV_get hx
    obtain ⟨hi, hye⟩ := List.getElem?_eq_some_iff.mp hy
    have hb := blk_get hy
    have okr := ok.get hb
    have hd : rs.drop i = y :: rs.drop (i + 1) := by rw [List.drop_eq_getElem_cons hi, hye]
    have hk := kept_snoc hb
    rw [hd, rbE_cons] at h2
    have hrow : H2 y.1 = some (.lst (rowL y)) := h2.of (List.mem_cons_of_mem _ (List.mem_cons_of_mem _ (List.mem_append_right _ List.mem_cons_self)))
    have keepy : ∀ e ∈ rbE [y], e.1 ∈ (rbE rs).map (·.1) ∨ H e.1 = none := fun e he => .inl (List.mem_map.mpr ⟨e, rbE_mem (List.mem_of_getElem? hy) e he, rfl⟩)
    have hal : acc.length ≤ i := by
      have e := congrArg List.length hacc
      rw [blk_len] at e
      have := kept_len ((blk rs).take i)
      rw [List.length_take] at this
      omega
    walk_at "gs"
    refine h_ixQ (SqL.of hrow) rfl ?_
    walk_at "gs"
    refine h_itn (fun c0 => ?_) (fun c0 => ?_)
    · have yf : y.2.2.fr = false := by
        cases z : y.2.2.fr with
        | false => rfl
        | true => exact absurd ((fr_n okr).mpr z) (by omega)
      rw [if_neg (by rw [yf]; exact Bool.false_ne_true)] at hk
      walk_at "gs"
      refine h_listOfF h2 hrow fun p' H3 np' h3 => ?_
      obtain ⟨acc2, a1, a2, a3⟩ := h_accL (y := .ref p') 1 h3 rfl np (by unfold rbV; rw [List.length_map, sizeLine_eq]; omega)
      refine ⟨acc2, a1, a2, acc ++ [(p', y.2)], np, ?_, fun e he => ?_, ?_⟩
      · rw [blk_app, hacc, hk]
        rfl
      · rw [rbE_app] at he
        rcases List.mem_append.mp he with he | he
        · exact hky e he
        · rcases List.mem_cons.mp he with rfl | he
          · exact .inr (el np')
          · exact keepy e (List.mem_cons_of_mem _ he)
      · rw [rbV_app]
        exact rb_copy a3
    · have yf : y.2.2.fr = true := (fr_n okr).mp (by omega)
      rw [if_pos yf, List.append_nil] at hk
      exact ⟨acc, np, by rw [hk]; exact hacc, hky, rb_drop h2⟩
  · rintro kp H2 ⟨acc, nkp, hacc, hky, h2⟩
    have e : (rbV rs).length = rs.length := by unfold rbV; rw [List.length_map]
    rw [e] at hacc h2
    rw [List.drop_length, show rbE [] = [] from rfl, List.append_nil] at h2
    rw [List.take_of_length_le (by rw [blk_len]; exact Nat.le_refl _)] at hacc
    have hal : acc.length ≤ rs.length := by
      have e := congrArg List.length hacc
      rw [blk_len] at e
      have := kept_len (blk rs)
      rw [blk_len] at this
      omega
    walk_at "gs"
    refine ⟨kp, acc, rfl, rowsAt_of h2 List.mem_cons_self fun e he => List.mem_cons_of_mem _ (List.mem_cons_of_mem _ he), by omega, fun H3 s3 => ?_⟩
    rw [hacc]
    have h3 := h2.same s3
    have h4 : Led K H [] H3 ([(kp, .raw (.lst (rbV acc))), (rp, .raw (.lst (rbV rs)))] ++ rbE acc) [] := h3
    have h5 : Led K H [] H3 ((kp, .raw (.lst (rbV acc))) :: rbE acc) [] := h4.pickT [0]
    clear h2 h3 h4
    have ku := kept_unt (blk rs)
    walk_at "gs"
    refine h_cut (fun σ H4 => ∃ (rs' : RB) (y3 y4 : Option V), σ = [some (.ref rp), some (.int (unt (blk rs) : Nat)), some (.ref kp), y3, y4] ∧ blk rs' = together (blk rs) ∧ keysOk K H rs rs' ∧ Led K H [] H4 ((kp, .raw (.lst (rbV rs'))) :: rbE rs') []) ?_ ?_
    · walk_at "gs"
      refine h_br (fun hc => ?_) (fun hc => ?_)
      · walk_at "gs"
        rename_i nb H4 nnb h6 np H5 nnp h7
        have h8 : Led K H [] H5 ((np, .raw (.lst (rowL (np, nb, freeB (unt (blk rs) - unt (kept (blk rs))))))) :: (nb, .raw (.lst [])) :: (kp, .raw (.lst (rbV acc))) :: rbE acc) [] := by
          have e : (.int (unt (blk rs) : Nat) : V) = .int (unt (blk rs) : Nat) := rfl
          have e2 : ((unt (blk rs) : Nat) : Int) - ((unt (kept (blk rs)) : Nat) : Int) = ((unt (blk rs) - unt (kept (blk rs)) : Nat) : Int) := by omega
          rw [e2] at h7
          exact h7
        refine h_append 2 h8 rfl nkp (by unfold rbV; rw [List.length_map, sizeLine_eq]; omega) fun H6 h9 => ?_
        refine ⟨acc ++ [(np, nb, freeB (unt (blk rs) - unt (kept (blk rs))))], _, _, rfl, ?_, fun e he => ?_, ?_⟩
        · rw [blk_app, hacc]
          unfold together
          rw [if_pos (by omega)]
          rfl
        · rw [rbE_app] at he
          rcases List.mem_append.mp he with he | he
          · exact hky e he
          · rcases List.mem_cons.mp he with rfl | he
            · exact .inr (el nnp)
            · rcases List.mem_cons.mp he with rfl | he
              · exact .inr (el nnb)
              · exact nomatch he
        · rw [rbV_app, rbE_app]
          exact h9.perm (((List.Perm.swap _ _ _).cons _).trans ((List.Perm.swap _ _ _).trans ((List.perm_append_comm (l₁ := [_, _]) (l₂ := rbE acc)).cons _)))
      · walk_at "gs"
        refine ⟨acc, _, _, rfl, ?_, hky, h5⟩
        rw [hacc]
        unfold together
        rw [if_neg (by omega), List.append_nil]
    rintro σ H4 ⟨rs', y3, y4, rfl, e1, e2, h6⟩
    walk_at "gs"
    exact k kp rs' H4 e1 (el nkp) e2 h6

structure XC (K : PySem.W.Frag) (A : Ad) : Prop where
  ex_Full : ExcC K A.c_Full
  exm_Full_RecordError : PySem.W.exmOne K (.ref A.c_Full) (.ref A.c_RecordError) = some true
  kit_Full_Full : PySem.W.kitOne K (.ref A.c_Full) (.ref A.c_Full) = some true

def sp__law_take (K : PySem.W.Frag) (A : Ad) : Sp := fun vs H Q _ => ∃ (a : Addr) (rs : List Blk) (m k v n : Nat), vs = [.ref a, .int m, .int k, .int v, .int n] ∧ H a = some (.lst ((wr rs).map V.int)) ∧ BOk rs ∧ 1 ≤ m ∧ m ≤ 100 ∧ k ≠ 0 ∧ k < 256 ∧ v < 256 ∧ n ≠ 0 ∧ n < 2 ^ 31 ∧
  (takeR rs m k v n = none → ∀ H', KBs H H' [a] → H' a = some (.lst ((wr rs).map V.int)) → Q (.str "full") H') ∧
  (∀ rs' j, takeR rs m k v n = some (rs', j) → ∀ H', KBs H H' [a] → H' a = some (.lst ((wr rs').map V.int)) → Q (.int (offn rs' j)) H')

def t__law_take (K : PySem.W.Frag) (A : Ad) : TS :=
  (mTryAs K (.ref A.c_RecordError) 5 (fun W =>
    (tRet (tCallS (sp_take K A) (WE W) (tCons (mV 0) (tCons (mV 1) (tCons (mV 2) (tCons (mV 3) (tCons (mV 4) tNil))))))))
    (fun a cls d => (tSeq (mIf (mTr K (tCB (rIsX K cls d a) (tCons (mV 5) (tCons (tC (.ref A.c_Full)) tNil))))
    (tRet (tC (.str "full")))
    tNext)
  (tRet (tC (.str "other"))))) wNo)
theorem rd__law_take {K : PySem.W.Frag} {A : Ad} {vs : List V} {H : Hp} {Q : VK} {E : XK} (C : XC K A) (h : sp__law_take K A vs H Q E) : t__law_take K A { nx := fun _ H' => Q .non H', rt := Q } (start ["_law_data", "_law_many", "_law_kind", "_law_version", "_law_number", "e"] vs) H := by
  obtain ⟨a, rs, m, kk, v, n, rfl, ha, ok, m1, m2, k0, k1, v1, n0, n1, ke, k⟩ := h
  show t__law_take K A _ [some (.ref a), some (.int m), some (.int kk), some (.int v), some (.int n), none] H
  unfold t__law_take
  walk_at "gs"
  refine ⟨a, rs, m, kk, v, n, rfl, ha, ok, m1, m2, k0, k1, v1, n0, n1, fun e H1 kb he => ?_, fun rs' j e H1 kb he => ?_⟩
  · refine h_wAsT C.exm_Full_RecordError fun x hx => ?_
    walk_at "gs"
    refine h_isXr C.ex_Full C.kit_Full_Full ?_
    walk_at "gs"
    exact ke e H1 kb he
  · exact k rs' j e H1 kb he

def usedR (rs : RB) : RB := rs.filter fun x => !x.2.2.fr
theorem blk_used (rs : RB) : blk (usedR rs) = kept (blk rs) := by
  unfold blk usedR kept
  rw [List.filter_map]
  rfl
theorem usedR_snoc {rs : RB} {j : Nat} {y : Addr × Addr × Blk} (h : rs[j]? = some y) : usedR (rs.take (j + 1)) = usedR (rs.take j) ++ (if y.2.2.fr = true then [] else [y]) := by
  unfold usedR
  rw [List.take_add_one, h, List.filter_append]
  show _ ++ [y].filter _ = _
  cases hf : y.2.2.fr with
  | true => rw [List.filter_cons_of_neg (by rw [hf]; exact Bool.false_ne_true), if_pos rfl]; rfl
  | false => rw [List.filter_cons_of_pos (by rw [hf]; rfl), if_neg Bool.false_ne_true]; rfl
theorem usedR_mem {rs : RB} : ∀ e ∈ rbE (usedR rs), e ∈ rbE rs := fun e he => by
  obtain ⟨x, hx, h⟩ := List.mem_flatMap.mp he
  exact List.mem_flatMap.mpr ⟨x, (List.mem_filter.mp hx).1, h⟩
def sp__law_taken (K : PySem.W.Frag) (A : Ad) : Sp := fun vs H Q _ => ∃ (rp : Addr) (rs : RB) (m k v n : Nat), vs = [.ref rp, .int (unt (blk rs) : Nat), .int m, .int k, .int v, .int n] ∧ Led K H [] H ((rp, .raw (.lst (rbV rs))) :: rbE rs) [] ∧ BOk (blk rs) ∧ 1 ≤ m ∧ m ≤ 100 ∧
  (takeR (blk rs) m k v n = none → ∀ H', Same H H' → Q .non H') ∧
  (∀ bs' j, takeR (blk rs) m k v n = some (bs', j) → ∀ q p rs' H', blk rs' = bs' → H q = none → H p = none → keysOk K H rs rs' → Led K H [] H' ((q, .raw (.lst [.ref p, .int j])) :: (p, .raw (.lst (rbV rs'))) :: rbE rs') [] → Q (.ref q) H')
theorem place_is' {bs : List Blk} {m j : Nat} {r : Blk} (h : bs[j]? = some r) (hf : r.fr = true) (hm : m ≤ r.u) (hn : ∀ j' y, j' < j → bs[j']? = some y → (y.fr && decide (m ≤ y.u)) = false) : place bs m = some j :=
  idx_some h (by show (r.fr && decide (m ≤ r.u)) = true; rw [hf, decide_eq_true hm]; rfl) hn
theorem Led.ins {K : PySem.W.Frag} {H0 H : Hp} {S : List Addr} {I : List (V × PyData)} {Y N A B C : List (Addr × Ent)} (h : Led K H0 S H (Y ++ (N ++ (A ++ (B ++ C)))) I) : Led K H0 S H (Y ++ (A ++ (N ++ C))) I := by
  have h1 : Led K H0 S H (Y ++ (N ++ (A ++ C))) I := h.sub (List.Sublist.append_left (List.Sublist.append_left (List.Sublist.append_left (List.sublist_append_right B C) A) N) Y)
  refine h1.perm (List.Perm.append_left Y ?_)
  rw [← List.append_assoc, ← List.append_assoc]
  exact List.perm_append_comm.append_right C
theorem rb_split {rs : RB} {j : Nat} {x : Addr × Addr × Blk} (h : rs[j]? = some x) : rs = rs.take j ++ ([x] ++ rs.drop (j + 1)) := by
  obtain ⟨hi, e⟩ := List.getElem?_eq_some_iff.mp h
  rw [List.singleton_append, ← e, ← List.drop_eq_getElem_cons hi, List.take_append_drop]
theorem rb_get {rs : RB} {j : Nat} {y : Blk} (h : (blk rs)[j]? = some y) : ∃ x, rs[j]? = some x ∧ x.2.2 = y := by
  unfold blk at h
  rw [List.getElem?_map] at h
  obtain ⟨x, hx, e⟩ := Option.map_eq_some_iff.mp h
  exact ⟨x, hx, e⟩
theorem blk_take (rs : RB) (j : Nat) : blk (rs.take j) = (blk rs).take j := List.map_take
theorem blk_drop (rs : RB) (j : Nat) : blk (rs.drop j) = (blk rs).drop j := List.map_drop
theorem rbV_take (rs : RB) (j : Nat) : rbV (rs.take j) = (rbV rs).take j := List.map_take
theorem rbV_drop (rs : RB) (j : Nat) : rbV (rs.drop j) = (rbV rs).drop j := List.map_drop
theorem Led.same0 {K : PySem.W.Frag} {H0 H : Hp} {L : List (Addr × Ent)} {I : List (V × PyData)} (h : Led K H0 [] H L I) : Same H0 H := fun a o q => h.kp a o q (fun z => nomatch z)

def t__law_taken (K : PySem.W.Frag) (A : Ad) : TS :=
  (tSeq (mIf (mTest (tOp mGt (tOp (mAdd K) (tCall (sp__law_units K A) [] E0 (tCons (tLc (jL K (mV 0)) (gName 11) (mTest (tOp (mNe K) (tOp (rIx K) (mV 11) (tC (.int 3))) (tC (.int 0)))) (mV 11) [11]) tNil)) (mV 2)) (mV 1)))
    (tRet (tC .non))
    tNext)
  (tSeq (tAsg (tLc (jR1 (tCons (tCB (hLen K) (tCons (mV 0) tNil)) tNil)) (gName 12) (tAnd (mTest (tOp (mEq K) (tOp (rIx K) (tOp (rIx K) (mV 0) (mV 12)) (tC (.int 3))) (tC (.int 0)))) (mTest (tOp mGe (tOp (rIx K) (tOp (rIx K) (mV 0) (mV 12)) (tC (.int 0))) (mV 2)))) (mV 12) [12]) (gName 6))
  (mCut (mIf (mTest (tOp (mEq K) (tCB (hLen K) (tCons (mV 6) tNil)) (tC (.int 0))))
    (tSeq (tAsg (tCall (sp__law_together K A) [] E0 (tCons (mV 0) (tCons (mV 1) tNil))) (gName 0))
  (tAsg (tLst (tCons (tOp mSub (tCB (hLen K) (tCons (mV 0) tNil)) (tC (.int 1))) tNil)) (gName 6)))
    tNext)
  (tSeq (tAsg (tOp (rIx K) (mV 6) (tC (.int 0))) (gName 7))
  (tSeq (tAsg (tLst (tCons (mV 2) (tCons (mV 3) (tCons (mV 4) (tCons (mV 5) (tCons (tOp mMul (tLst (tCons (tC (.int 0)) tNil)) (tOp mSub (tOp mMul (tC (.int 8)) (mV 2)) (tC (.int 8)))) tNil)))))) (gName 8))
  (tSeq (tAsg (tOp mSub (tOp (rIx K) (tOp (rIx K) (mV 0) (mV 7)) (tC (.int 0))) (mV 2)) (gName 9))
  (tSeq (tAsg (tLst tNil) (gName 10))
  (mCut (mIf (mTest (tOp mGt (mV 9) (tC (.int 0))))
    (tAsg (tLst (tCons (tLst (tCons (mV 9) (tCons (tC (.int 0)) (tCons (tC (.int 0)) (tCons (tC (.int 0)) (tCons (tLst tNil) tNil)))))) tNil)) (gName 10))
    tNext)
  (tRet (tLst (tCons (tOp (mAdd K) (tOp (mAdd K) (tOp (mAdd K) (tSl (uSl K) (mV 0) tNoPart (mPart (mV 7))) (tLst (tCons (mV 8) tNil))) (mV 10)) (tSl (uSl K) (mV 0) (mPart (tOp (mAdd K) (mV 7) (tC (.int 1)))) tNoPart)) (tCons (mV 7) tNil))))))))))))
theorem rd__law_taken {K : PySem.W.Frag} {A : Ad} {vs : List V} {H : Hp} {Q : VK} {E : XK} (h : sp__law_taken K A vs H Q E) : t__law_taken K A { nx := fun _ H' => Q .non H', rt := Q } (start ["_law_rows", "_law_units_here", "_law_many", "_law_kind", "_law_version", "_law_number", "_law_places", "_law_at", "_law_new", "_law_rest", "_law_tail", "_law_row", "_law_k"] vs) H := by
  obtain ⟨rp, rs, m, kk, v, n, rfl, hL, ok, m1, m2, kn, ks⟩ := h
  show t__law_taken K A _ [some (.ref rp), some (.int (unt (blk rs) : Nat)), some (.int m), some (.int kk), some (.int v), some (.int n), none, none, none, none, none, none, none] H
  unfold t__law_taken
  have hll := len_le ok.1
  have hu := ok.2
  rw [blk_len] at hll
  have el : ∀ {p : Addr}, (H p = none ∨ p ∈ []) → H p = none := fun z => z.elim id fun z => nomatch z
  walk_at "gs"
  refine lcL hL (fun p i H2 => (H p = none ∨ p ∈ []) ∧ Led K H [] H2 ((p, .raw (.lst (rbV (usedR (rs.take i))))) :: (rp, .raw (.lst (rbV rs))) :: rbE rs) [])
    (fun p H2 np h2 => ⟨np, h2⟩) (fun p i H2 _ h2 => h2.2.sqL 1 rfl) ?_ ?_
  · rintro p i x H2 hx ⟨np, h2⟩
    obtain ⟨y, hy, rfl⟩ := rbV_get hx
    have hrow := (rowsAt_of h2 (List.mem_cons_of_mem _ List.mem_cons_self) (acc := rs) fun e he => List.mem_cons_of_mem _ (List.mem_cons_of_mem _ he)).get hy
    have okr := ok.get (blk_get hy)
    have hsn := usedR_snoc hy
    have hal : (usedR (rs.take i)).length ≤ 100 := Nat.le_trans (List.length_filter_le _ _) (by rw [List.length_take]; omega)
    walk_at "gs"
    refine h_ixQ (SqL.of hrow.1) rfl ?_
    walk_at "gs"
    refine h_itn (fun c0 => ?_) (fun c0 => ?_)
    · have yf : y.2.2.fr = false := by
        cases z : y.2.2.fr with
        | false => rfl
        | true => exact absurd ((fr_n okr).mpr z) (by omega)
      rw [if_neg (by rw [yf]; exact Bool.false_ne_true)] at hsn
      walk_at "gs"
      obtain ⟨acc2, a1, a2, a3⟩ := h_accL (y := .ref y.1) 0 h2 rfl np (by unfold rbV; rw [List.length_map, sizeLine_eq]; omega)
      refine ⟨acc2, a1, a2, np, ?_⟩
      rw [hsn, rbV_app]
      exact a3
    · have yf : y.2.2.fr = true := (fr_n okr).mp (by omega)
      rw [if_pos yf, List.append_nil] at hsn
      rw [hsn]
      exact ⟨np, h2⟩
  · rintro up H2 ⟨nup, h2⟩
    have e : (rbV rs).length = rs.length := by unfold rbV; rw [List.length_map]
    rw [e, List.take_of_length_le (Nat.le_refl _)] at h2
    have hal : (usedR rs).length ≤ 100 := Nat.le_trans (List.length_filter_le _ _) (by omega)
    walk_at "gs"
    refine ⟨up, usedR rs, rfl, rowsAt_of h2 List.mem_cons_self fun e he => List.mem_cons_of_mem _ (List.mem_cons_of_mem _ (usedR_mem e he)), by omega, fun H3 s3 => ?_⟩
    rw [blk_used]
    have h3 := (h2.same s3).tlL
    clear h2 hL s3
    have eu := usedU_kept (blk rs)
    walk_at "gs"
    refine h_br (fun hc => ?_) (fun hc => ?_)
    · walk_at "gs"
      exact kn (by unfold takeR; rw [if_pos (by omega)]) H3 h3.same0
    have hc : ¬ unt (blk rs) < usedU (blk rs) + m := by omega
    walk_at "gs"
    refine lcR h3 (fun p i H4 => ∃ ns : List Nat, (H p = none ∨ p ∈ []) ∧ ns.length ≤ i ∧ Led K H [] H4 ((p, .raw (.lst (ns.map fun (j : Nat) => V.int j))) :: (rp, .raw (.lst (rbV rs))) :: rbE rs) [] ∧
        ((ns = [] ∧ ∀ (j : Nat) y, j < i → (blk rs)[j]? = some y → (y.fr && decide (m ≤ y.u)) = false) ∨ ∃ j0 rest, ns = j0 :: rest ∧ place (blk rs) m = some j0))
      (fun p H4 np h4 => ⟨[], np, Nat.le_refl _, h4, .inl ⟨rfl, fun j y z => absurd z (Nat.not_lt_zero _)⟩⟩) ?_ ?_
    · rintro p i H4 hi ⟨ns, np, hal2, h4, alt⟩
      have e : (rbV rs).length = rs.length := by unfold rbV; rw [List.length_map]
      rw [e] at hi
      have hi2 : i < rs.length := by omega
      have hy : rs[i]? = some rs[i] := List.getElem?_eq_getElem hi2
      generalize rs[i] = y at hy
      have hix : atI (rbV rs) (0 + (i : Nat)) = some (.ref y.1) := by
        refine at_nn (by omega) ?_
        rw [show (0 + (i : Int)).toNat = i by omega]
        unfold rbV
        rw [List.getElem?_map, hy]
        rfl
      have hb := blk_get hy
      have okr := ok.get hb
      have hrow := (rowsAt_of h4 (List.mem_cons_of_mem _ List.mem_cons_self) (acc := rs) fun e he => List.mem_cons_of_mem _ (List.mem_cons_of_mem _ he)).get hy
      have no : ¬ (y.2.2.fr = true ∧ m ≤ y.2.2.u) → ∃ ns : List Nat, (H p = none ∨ p ∈ []) ∧ ns.length ≤ i + 1 ∧ Led K H [] H4 ((p, .raw (.lst (ns.map fun (j : Nat) => V.int j))) :: (rp, .raw (.lst (rbV rs))) :: rbE rs) [] ∧
          ((ns = [] ∧ ∀ (j : Nat) y, j < i + 1 → (blk rs)[j]? = some y → (y.fr && decide (m ≤ y.u)) = false) ∨ ∃ j0 rest, ns = j0 :: rest ∧ place (blk rs) m = some j0) := fun q => by
        refine ⟨ns, np, by omega, h4, alt.imp_left fun z => ⟨z.1, fun j y2 hj hy2 => ?_⟩⟩
        by_cases c : j < i
        · exact z.2 j y2 c hy2
        · have : j = i := by omega
          subst this
          rw [hb] at hy2
          cases hy2
          cases f : y.2.2.fr with
          | false => rfl
          | true => exact decide_eq_false fun g => q ⟨f, g⟩
      walk_at "gs"
      refine h_ixL 1 h4 rfl hix ?_
      walk_at "gs"
      refine h_ixQ (SqL.of hrow.1) rfl ?_
      walk_at "gs"
      refine h_ite (fun c0 => ?_) (fun c0 => ?_)
      · have yf : y.2.2.fr = true := (fr_n okr).mp (by omega)
        walk_at "gs"
        refine h_ixL 1 h4 rfl hix ?_
        walk_at "gs"
        refine h_ixQ (SqL.of hrow.1) rfl ?_
        walk_at "gs"
        refine h_ite (fun c1 => ?_) (fun c1 => ?_)
        · obtain ⟨acc2, a1, a2, a3⟩ := h_accL (y := .int (0 + (i : Nat))) 0 h4 rfl np (by rw [List.length_map, sizeLine_eq]; omega)
          refine ⟨acc2, a1, a2, ns ++ [i], np, by rw [List.length_append, List.length_singleton]; omega, ?_, .inr ?_⟩
          · rw [List.map_append]
            rw [show ((0 : Int) + (i : Nat)) = (i : Nat) by omega] at a3 ⊢
            exact a3
          · rcases alt with ⟨rfl, hn⟩ | ⟨j0, rest, rfl, hp⟩
            · exact ⟨i, [], rfl, place_is' hb yf (by omega) hn⟩
            · exact ⟨j0, rest ++ [i], rfl, hp⟩
        · exact no fun z => c1 (by have := z.2; omega)
      · exact no fun z => c0 (by have := (fr_n okr).mpr z.1; omega)
    · rintro pp H4 ⟨ns, npp, hal2, h4, alt⟩
      have e : (rbV rs).length = rs.length := by unfold rbV; rw [List.length_map]
      walk_at "gs"
      refine h_cut (fun σ H5 => ∃ (rp' pp' : Addr) (rs1 : RB) (j0 : Nat) (rest : List V), σ = [some (.ref rp'), some (.int (unt (blk rs) : Nat)), some (.int m), some (.int kk), some (.int v), some (.int n), some (.ref pp'), none, none, none, none, none, none] ∧
        Led K H [] H5 ((pp', .raw (.lst (.int j0 :: rest))) :: (rp', .raw (.lst (rbV rs1))) :: rbE rs1) [] ∧ BOk (blk rs1) ∧ keysOk K H rs rs1 ∧ place (blk rs1) m = some j0 ∧ takeR (blk rs) m kk v n = some (putAt (blk rs1) j0 m kk v n, j0)) ?_ ?_
      · walk_at "gs"
        refine h_br (fun c => ?_) (fun c => ?_)
        · rcases alt with ⟨rfl, hn⟩ | ⟨j0, rest, rfl, hp⟩
          rotate_left
          · exact absurd c (by rw [List.map_cons, List.length_cons]; omega)
          have hpn : place (blk rs) m = none := idx_none fun j y hy => hn j y (by rw [e]; have := (List.getElem?_eq_some_iff.mp hy).1; rw [blk_len] at this; omega) hy
          have h5 := h4.tlL
          obtain ⟨t1, t2, t3⟩ := place_together ok m1 hc
          clear hn h4 h3
          walk_at "gs"
          have p0 : Led K H4 [] H4 ((rp, .raw (.lst (rbV rs))) :: rbE rs) [] := (show Led K H [] H4 (((rp, .raw (.lst (rbV rs))) :: rbE rs) ++ []) [] by rw [List.append_nil]; exact h5).pre [] [] fun n v d z => by simp at z
          refine ⟨rp, rs, rfl, p0, ok, fun p' rs' H6 er np' ky h6 => ?_⟩
          have h7 := (show Led K H [] H4 (((rp, .raw (.lst (rbV rs))) :: rbE rs) ++ []) [] by rw [List.append_nil]; exact h5).backA [] h6 (fun b z => nomatch z) (fun e he => by
            rcases List.mem_cons.mp he with rfl | he
            · exact .inr np'
            · exact (ky e he).imp_left fun z => List.mem_cons_of_mem _ z) (fun b z => nomatch z)
          rw [List.append_nil, List.append_nil] at h7
          have tl := (together_ok ok)
          have hl2 : rs'.length = (kept (blk rs)).length + 1 := by
            rw [← blk_len, er]
            unfold together
            rw [if_pos (by omega), List.length_append]
            rfl
          have el' : (rbV rs').length = rs'.length := by unfold rbV; rw [List.length_map]
          walk_at "gs"
          rename_i q H7 nq h8
          refine ⟨p', q, rs', (kept (blk rs)).length, [], rfl, ?_, by rw [er]; exact tl.1, fun e he => (ky e he).imp_right fun z => el (h5.fr z), by rw [er]; exact t1, ?_⟩
          · rw [el', hl2, show (((kept (blk rs)).length + 1 : Nat) : Int) - 1 = ((kept (blk rs)).length : Nat) by omega] at h8
            exact h8
          · unfold takeR
            rw [if_neg hc, hpn, er]
        · walk_at "gs"
          rcases alt with ⟨rfl, hn⟩ | ⟨j0, rest, rfl, hp⟩
          · exact absurd rfl c
          · refine ⟨rp, pp, rs, j0, rest.map fun (j : Nat) => V.int j, rfl, h4, ok, fun e he => .inl (List.mem_map.mpr ⟨e, he, rfl⟩), hp, ?_⟩
            unfold takeR
            rw [if_neg hc, hp]
      · rintro σ H5 ⟨rp', pp', rs1, j0, rest, rfl, h5, ok1, hky, hpl, htk⟩
        obtain ⟨r0, hr0, hf, hm⟩ := place_spec hpl
        obtain ⟨x, hx, rfl⟩ := rb_get hr0
        walk_at "gs"
        refine h_ixL 0 h5 rfl (at_nn (by decide) rfl) ?_
        walk_at "gs"
        rename_i zb H6 nzb h6
        refine h_rep 0 h6 rfl (by omega) (by omega) fun p1 H7 np1 h7 => ?_
        walk_at "gs"
        rename_i np H8 nnp h8
        have hj : j0 < rs1.length := (List.getElem?_eq_some_iff.mp hx).1
        have ev1 : (rbV rs1).length = rs1.length := by unfold rbV; rw [List.length_map]
        have hu1 := ok1.2
        have hl1 := len_le ok1.1
        rw [blk_len] at hl1
        have u1 := (ok1.get hr0).u1
        have ub := ok1.u hr0
        have hixr : atI (rbV rs1) (j0 : Nat) = some (.ref x.1) := by
          refine at_nn (by omega) ?_
          rw [Int.toNat_natCast]
          unfold rbV
          rw [List.getElem?_map, hx]
          rfl
        have hrow := (rowsAt_of h8 (p := rp') (acc := rs1) (by simp) fun e he => by simp [he]).get hx
        refine h_ixL 4 h8 rfl hixr ?_
        walk_at "gs"
        refine h_ixQ (SqL.of hrow.1) rfl ?_
        walk_at "gs"
        rename_i tp H9 ntp h9
        have h9 : Led K H [] H9 ((tp, .raw (.lst [])) :: (np, .raw (.lst (rowL (np, p1, newB m kk v n)))) :: (p1, .raw (.lst ((newB m kk v n).body.map V.int))) :: (zb, .raw (.lst [.int 0])) :: (pp', .raw (.lst (.int j0 :: rest))) :: (rp', .raw (.lst (rbV rs1))) :: rbE rs1) [] := by
          rw [show (8 * (m : Int) - 8).toNat = 8 * m - 8 by omega] at h9
          exact h9
        clear h5 h6 h7 h8 hrow h3
        refine h_cut (fun σ H5 => ∃ (tq : Addr) (tR : RB) (y9 : Option V), σ = [some (.ref rp'), some (.int (unt (blk rs) : Nat)), some (.int m), some (.int kk), some (.int v), some (.int n), some (.ref pp'), some (.int j0), some (.ref np), y9, some (.ref tq), none, none] ∧
          blk tR = tail x.2.2.u m ∧ (∀ e ∈ rbE tR, H e.1 = none) ∧ Led K H [] H5 ((tq, .raw (.lst (rbV tR))) :: (np, .raw (.lst (rowL (np, p1, newB m kk v n)))) :: (p1, .raw (.lst ((newB m kk v n).body.map V.int))) :: (rp', .raw (.lst (rbV rs1))) :: (rbE tR ++ rbE rs1)) []) ?_ ?_
        · walk_at "gs"
          refine h_br (fun c => ?_) (fun c => ?_)
          · walk_at "gs"
            rename_i nb H10 nnb h10 tn H11 ntn h11 tq H12 ntq h12
            refine ⟨tq, [(tn, nb, freeB (x.2.2.u - m))], _, rfl, ?_, fun e he => ?_, ?_⟩
            · unfold tail
              rw [if_pos (by omega)]
              rfl
            · rcases List.mem_cons.mp he with rfl | he
              · exact el ntn
              · cases List.mem_singleton.mp he
                exact el nnb
            · have e : ((x.2.2.u : Int) - (m : Int)) = ((x.2.2.u - m : Nat) : Int) := by omega
              rw [e] at h12
              exact (show Led K H [] H12 ([(tq, .raw (.lst [.ref tn])), (tn, .raw (.lst (rowL (tn, nb, freeB (x.2.2.u - m))))), (nb, .raw (.lst [])), (tp, .raw (.lst [])), (np, .raw (.lst (rowL (np, p1, newB m kk v n)))), (p1, .raw (.lst ((newB m kk v n).body.map V.int))), (zb, .raw (.lst [.int 0])), (pp', .raw (.lst (.int j0 :: rest))), (rp', .raw (.lst (rbV rs1)))] ++ rbE rs1) [] from h12).pickT [0, 4, 5, 8, 1, 2]
          · walk_at "gs"
            refine ⟨tp, [], _, rfl, ?_, fun e he => (nomatch he), ?_⟩
            · unfold tail
              rw [if_neg (by omega)]
              rfl
            · exact (show Led K H [] H9 ([(tp, .raw (.lst [])), (np, .raw (.lst (rowL (np, p1, newB m kk v n)))), (p1, .raw (.lst ((newB m kk v n).body.map V.int))), (zb, .raw (.lst [.int 0])), (pp', .raw (.lst (.int j0 :: rest))), (rp', .raw (.lst (rbV rs1)))] ++ rbE rs1) [] from h9).pickT [0, 1, 2, 5]
        · clear h9
          rintro σ H5 ⟨tq, tR, y9, rfl, hbt, hkt, h9⟩
          walk_at "gs"
          refine h_slG 3 h9 rfl fun s1 H6 ns1 h10 => ?_
          walk_at "gs"
          rename_i sn H7 nsn h11
          have ct : cutI (rbV rs1) none (some (j0 : Int)) = rbV (rs1.take j0) := by rw [cutI_pre _ (by omega), Int.toNat_natCast, rbV_take]
          have cd : cutI (rbV rs1) (some ((j0 : Int) + 1)) none = rbV (rs1.drop (j0 + 1)) := by rw [cutI_suf _ (by omega), show ((j0 : Int) + 1).toNat = j0 + 1 by omega, rbV_drop]
          have lt : (rbV (rs1.take j0)).length = j0 := by unfold rbV; rw [List.length_map, List.length_take]; omega
          have ld : (rbV (rs1.drop (j0 + 1))).length = rs1.length - (j0 + 1) := by unfold rbV; rw [List.length_map, List.length_drop]
          have ltl : (rbV tR).length ≤ 1 := by
            unfold rbV
            rw [List.length_map, ← blk_len, hbt]
            unfold tail
            split
            · exact Nat.le_refl _
            · exact Nat.zero_le _
          rw [ct] at h11
          refine h_catG 1 0 h11 rfl rfl (by rw [lt, sizeLine_eq]; simp only [List.length_cons, List.length_nil]; omega) fun c1 H8 nc1 h12 => ?_
          walk_at "gs"
          refine h_catG 0 3 h12 rfl rfl (by rw [List.length_append, lt, sizeLine_eq]; simp only [List.length_cons, List.length_nil]; omega) fun c2 H9 nc2 h13 => ?_
          walk_at "gs"
          refine h_slG 7 h13 rfl fun s2 H10 ns2 h14 => ?_
          rw [cd] at h14
          walk_at "gs"
          refine h_catG 1 0 h14 rfl rfl (by rw [List.length_append, List.length_append, lt, ld, sizeLine_eq]; simp only [List.length_cons, List.length_nil]; omega) fun c3 H11 nc3 h15 => ?_
          walk_at "gs"
          rename_i q H12 nq h16
          have eV : rbV (rs1.take j0) ++ [.ref np] ++ rbV tR ++ rbV (rs1.drop (j0 + 1)) = rbV (rs1.take j0 ++ ([(np, p1, newB m kk v n)] ++ (tR ++ rs1.drop (j0 + 1)))) := by
            rw [rbV_app, rbV_app, rbV_app, List.append_assoc, List.append_assoc]
            rfl
          rw [eV] at h16
          have h17 := (show Led K H [] H12 ([(q, .raw (.lst [.ref c3, .int j0])), (c3, .raw (.lst (rbV (rs1.take j0 ++ ([(np, p1, newB m kk v n)] ++ (tR ++ rs1.drop (j0 + 1))))))), (s2, .raw (.lst (rbV (rs1.drop (j0 + 1))))), (c2, .raw (.lst (rbV (rs1.take j0) ++ [.ref np] ++ rbV tR))), (c1, .raw (.lst (rbV (rs1.take j0) ++ [.ref np]))), (sn, .raw (.lst [.ref np])), (s1, .raw (.lst (rbV (rs1.take j0)))), (tq, .raw (.lst (rbV tR))), (np, .raw (.lst (rowL (np, p1, newB m kk v n)))), (p1, .raw (.lst ((newB m kk v n).body.map V.int))), (rp', .raw (.lst (rbV rs1)))] ++ (rbE tR ++ rbE rs1)) [] from h16).pickT [0, 1, 8, 9]
          have es := congrArg rbE (rb_split hx)
          rw [rbE_app, rbE_app] at es
          have h18 := Led.ins (Y := [(q, .raw (.lst [.ref c3, .int j0])), (c3, .raw (.lst (rbV (rs1.take j0 ++ ([(np, p1, newB m kk v n)] ++ (tR ++ rs1.drop (j0 + 1)))))))]) (N := rbE [(np, p1, newB m kk v n)] ++ rbE tR) (A := rbE (rs1.take j0)) (B := rbE [x]) (C := rbE (rs1.drop (j0 + 1))) (K := K) (H0 := H) (H := H12) (S := []) (I := []) (by
            rw [← es, List.append_assoc]
            exact h17)
          refine ks _ j0 htk q c3 (rs1.take j0 ++ ([(np, p1, newB m kk v n)] ++ (tR ++ rs1.drop (j0 + 1)))) H12 ?_ (el nq) (el nc3) (fun e he => ?_) ?_
          · rw [blk_app, blk_app, blk_app, blk_take, blk_drop, hbt]
            unfold putAt
            rw [List.getD_eq_getElem?_getD, hr0]
            rfl
          · rw [rbE_app, rbE_app, rbE_app] at he
            rcases List.mem_append.mp he with he | he
            · exact hky e (by rw [es]; exact List.mem_append_left _ he)
            · rcases List.mem_append.mp he with he | he
              · rcases List.mem_cons.mp he with rfl | he
                · exact .inr (el nnp)
                · cases List.mem_singleton.mp he
                  exact .inr (el np1)
              · rcases List.mem_append.mp he with he | he
                · exact .inr (hkt e he)
                · exact hky e (by rw [es]; exact List.mem_append_right _ (List.mem_append_right _ he))
          · rw [rbE_app, rbE_app, rbE_app]
            rw [List.append_assoc] at h18
            exact h18

section
variable {K : PySem.W.Frag} {H0 H H' : Hp} {S S1 : List Addr} {I I1 : List (V × PyData)} {L L1 X A : List (Addr × Ent)}
theorem Led.trans (h : Led K H0 S H L I) (c : Led K H S1 H' L1 I1) (hS : ∀ b ∈ S1, H0 b = none ∨ b ∈ S) : Led K H0 S H' L1 I1 :=
  ⟨c.nd, c.at_, c.im, fun b o q hb => c.kp b o (h.kp b o q hb) fun hb1 => by
    rcases hS b hb1 with z | z
    · rw [z] at q
      exact nomatch q
    · exact hb z⟩
theorem Led.enter (h : Led K H0 S H (X ++ A) []) (S1 : List Addr := []) : Led K H S1 H A [] := by
  have q := (h.perm List.perm_append_comm)
  exact q.pre S1 [] fun n v d z => by simp at z
theorem Led.mine (h : Led K H0 S H (X ++ A) []) (c : Led K H [] H' L1 []) (hd : ∀ e ∈ L1, e.1 ∈ A.map (·.1) ∨ H e.1 = none) : Led K H0 S H' (X ++ L1) [] := by
  have q := (h.perm List.perm_append_comm).backA [] c (fun b z => nomatch z) hd (fun b z => nomatch z)
  rw [List.append_nil] at q
  exact q.perm List.perm_append_comm
end
def setB (r : Blk) (bd : List Int) : Blk := ⟨r.u, r.k, r.v, r.n, bd⟩
theorem setB_ok {r : Blk} (h : r.Ok) (hk : r.k ≠ 0) {bd : List Int} (hl : bd.length = r.body.length) (hb : Byt bd) : (setB r bd).Ok :=
  ⟨h.u1, h.k1, h.v1, h.n1, by show bd.length ≤ 8 * r.u - 8; rw [hl]; exact h.b1, hb, fun z => absurd z hk, fun _ => ⟨(h.f2 hk).1, by show bd.length = 8 * r.u - 8; rw [hl]; exact (h.f2 hk).2⟩⟩
theorem unt_set {bs : List Blk} {j : Nat} {r x : Blk} (h : bs[j]? = some r) (hu : x.u = r.u) : unt (bs.set j x) = unt bs ∧ ∀ i, offn (bs.set j x) i = offn bs i := by
  obtain ⟨hj, e⟩ := List.getElem?_eq_some_iff.mp h
  have em : (bs.set j x).map (·.u) = bs.map (·.u) := by
    refine List.ext_getElem? fun i => ?_
    rw [List.map_set, List.getElem?_set, hu]
    by_cases c : j = i
    · subst c
      rw [if_pos rfl, if_pos (by rw [List.length_map]; exact hj), List.getElem?_map, h]
      rfl
    · rw [if_neg c]
  refine ⟨by unfold unt; rw [em], fun i => ?_⟩
  unfold offn unt
  rw [List.map_take, em, ← List.map_take]
theorem set_ok {bs : List Blk} (ok : BOk bs) {j : Nat} {r x : Blk} (h : bs[j]? = some r) (hu : x.u = r.u) (hx : x.Ok) : BOk (bs.set j x) :=
  ⟨fun y hy => by
    rcases List.mem_or_eq_of_mem_set hy with hy | hy
    · exact ok.1 y hy
    · rw [hy]
      exact hx, by rw [(unt_set h hu).1]; exact ok.2⟩
/-- one byte of a body -/
theorem wr_body {bs : List Blk} (ok : BOk bs) {j k : Nat} {r : Blk} {z : Int} (h : bs[j]? = some r) (hk : k < r.body.length) : (wr bs).set (offn bs j + 8 + k) z = wr (bs.set j (setB r (r.body.set k z))) := by
  obtain ⟨e1, e2, _⟩ := wr_at ok h
  obtain ⟨hj, _⟩ := List.getElem?_eq_some_iff.mp h
  have e3 : bs.set j (setB r (r.body.set k z)) = bs.take j ++ setB r (r.body.set k z) :: bs.drop (j + 1) := List.set_eq_take_append_cons_drop.trans (if_pos hj)
  rw [e3, wr_app, wr_cons, e1, List.set_append_right _ _ (by omega), e2, show offn bs j + 8 + k - offn bs j = 8 + k by omega]
  refine congrArg (wr (bs.take j) ++ ·) ?_
  have e4 : (setB r (r.body.set k z)).bb = r.head ++ (r.body.set k z ++ List.replicate (8 * r.u - 8 - r.body.length) 0) := by
    unfold Blk.bb
    show r.head ++ (r.body.set k z ++ List.replicate (8 * r.u - 8 - (r.body.set k z).length) 0) = _
    rw [List.length_set]
  rw [e4]
  unfold Blk.bb
  rw [List.append_assoc, List.append_assoc, List.set_append_right _ _ (by rw [head_len]; omega), head_len, show 8 + k - 8 = k by omega, List.append_assoc, List.set_append_left _ _ hk, List.append_assoc]
theorem set_same {bs : List Blk} {j : Nat} {r : Blk} (h : bs[j]? = some r) : bs.set j (setB r r.body) = bs := by
  obtain ⟨hj, e⟩ := List.getElem?_eq_some_iff.mp h
  refine List.ext_getElem? fun i => ?_
  rw [List.getElem?_set]
  by_cases c : j = i
  · subst c
    rw [if_pos rfl, if_pos hj, h]
    rfl
  · rw [if_neg c]
theorem tups_get {bs : List Blk} {i : Nat} {r : Blk} (h : bs[i]? = some r) : (tups bs)[i]? = some (r.tup (offn bs i)) := by
  obtain ⟨hi, e⟩ := List.getElem?_eq_some_iff.mp h
  unfold tups
  rw [List.getElem?_map, List.getElem?_range hi]
  show some ((bs.getD i (freeB 0)).tup (offn bs i)) = _
  rw [List.getD_eq_getElem?_getD, h]
  rfl
theorem tups_len (bs : List Blk) : (tups bs).length = bs.length := by unfold tups; rw [List.length_map, List.length_range]
theorem offs_at {bs : List Blk} {i : Nat} {r : Blk} (h : bs[i]? = some r) : (offs bs)[i]? = some (offn bs i : Int) := by
  obtain ⟨hi, e⟩ := List.getElem?_eq_some_iff.mp h
  unfold offs
  rw [List.getElem?_map, List.getElem?_range hi]
  rfl
theorem shw_tups {bs : List Blk} (ok : BOk bs) : shw 2 ((tups bs).length * 169) (.list (tups bs)) :=
  shw_list (n := 1) (W := 168) fun d hd => by
    obtain ⟨j, hj, rfl⟩ := List.mem_map.mp hd
    have hj := List.mem_range.mp hj
    have hr : bs[j]? = some bs[j] := List.getElem?_eq_getElem hj
    rw [List.getD_eq_getElem?_getD, hr]
    have ro := ok.get hr
    have ub := ok.u hr
    have n1 := ro.n1
    have v1 := ro.v1
    have := unt_le hr
    have := ok.2
    show shw 1 168 (.tuple [.int (offn bs j : Nat), .int (8 * bs[j].u : Nat), .int bs[j].n, .int bs[j].v])
    refine shw_tup (n := 0) (W := 41) fun x hx => ?_
    have ho : offn bs j ≤ 800 := by unfold offn; omega
    simp only [List.mem_cons, List.not_mem_nil, or_false] at hx
    rcases hx with rfl | rfl | rfl | rfl
    · exact shw_int (by omega)
    · exact shw_int (by omega)
    · exact shw_int (by omega)
    · exact shw_int (by omega)
def sp__law_list_is (K : PySem.W.Frag) (A : Ad) : Sp := fun vs H Q _ => ∃ (a b : Addr) (ds : List PyData) (n W : Nat), vs = [.ref a, .ref b] ∧ EntAt K H a (.dl ds) ∧ EntAt K H b (.dl ds) ∧ shw n W (.list ds) ∧ n ≤ 60 ∧ W ≤ 2 ^ 20 ∧ ∀ H', Same H H' → Q (.bl true) H'
def sp__law_body (K : PySem.W.Frag) (A : Ad) : Sp := fun vs H Q _ => ∃ (b g d rp : Addr) (ds : List Int) (i : Int) (rs : RB) (j : Nat) (x : Addr × Addr × Blk), vs = [.ref b, .ref d, .ref rp, .int j] ∧
  Led K H [] H ([(b, .raw (.lst [.ref g, .int i])), (g, .raw (.lst (ds.map V.int))), (d, .raw (.lst ((wr (blk rs)).map V.int))), (rp, .raw (.lst (rbV rs)))] ++ rbE rs) [] ∧ BOk (blk rs) ∧ rs[j]? = some x ∧ x.2.2.k ≠ 0 ∧ 0 ≤ i ∧ i < 2 ^ 50 ∧
  ∀ rs' i' H', BOk (blk rs') → unt (blk rs') = unt (blk rs) → i ≤ i' → i' ≤ i + 2 * x.2.2.body.length → (rbE rs').map (·.1) = (rbE rs).map (·.1) →
    Led K H [b, d, x.2.1] H' ([(b, .raw (.lst [.ref g, .int i'])), (g, .raw (.lst (ds.map V.int))), (d, .raw (.lst ((wr (blk rs')).map V.int))), (rp, .raw (.lst (rbV rs')))] ++ rbE rs') [] → Q .non H'
def sp__law_right (K : PySem.W.Frag) (A : Ad) : Sp := fun vs H Q _ => ∃ (d rp : Addr) (rs : RB), vs = [.ref d, .ref rp] ∧ Led K H [] H ([(d, .raw (.lst ((wr (blk rs)).map V.int))), (rp, .raw (.lst (rbV rs)))] ++ rbE rs) [] ∧ BOk (blk rs) ∧ ∀ H', Same H H' → Q (.bl true) H'
def sp_law (K : PySem.W.Frag) (A : Ad) : Sp := fun vs H Q _ => ∃ (a : Addr) (ns : List Int), vs = [.ref a] ∧ SqL K H a (ns.map V.int) ∧ ∀ H', Q (.bl true) H'

def t__law_list_is (K : PySem.W.Frag) (A : Ad) : TS :=
  (tRet (mAndV (tCB (rIsi K) (tCons (mV 0) (tCons (tC (.ty "list")) tNil))) (tOp (mEq K) (tCB (hRepr K) (tCons (mV 0) tNil)) (tCB (hRepr K) (tCons (tCB (hListOf K) (tCons (mV 1) tNil)) tNil)))))
theorem rd__law_list_is {K : PySem.W.Frag} {A : Ad} {vs : List V} {H : Hp} {Q : VK} {E : XK} (h : sp__law_list_is K A vs H Q E) : t__law_list_is K A { nx := fun _ H' => Q .non H', rt := Q } (start ["_law_actual", "_law_due"] vs) H := by
  obtain ⟨a, b, ds, n, W, rfl, ha, hb, sw, hn, hW, k⟩ := h
  show t__law_list_is K A _ [some (.ref a), some (.ref b)] H
  unfold t__law_list_is
  have hL : Led K H [] H [(b, .dl ds)] [] := Led.mk1 hb
  obtain ⟨xs, ha1, ha2⟩ := ha
  obtain ⟨ys, hb1, hb2⟩ := hb
  walk_at "gs"
  refine ⟨_, _, _, _, true, rfl, .ty "list", .base (.lst ha1), kit_ty (by decide +kernel), ?_⟩
  walk_at "gs"
  refine h_repr (.lst (SqL.of ha1) ha2.dp) sw ?_ hn hW
  walk_at "gs"
  refine h_listOfF hL hb1 fun p H1 np h1 => ?_
  walk_at "gs"
  have s1 : Same H H1 := h1.same0
  have h2 := h1.toD 0 rfl (hb2.keep (S := []) (KBs.of s1) NoT.nil)
  refine h_repr (h2.dpL 0 rfl) sw ?_ hn hW
  walk_at "gs"
  rw [eqS_t rfl]
  exact k H1 s1

def t__law_body (K : PySem.W.Frag) (A : Ad) : TS :=
  (tFor (jR1 (tCons (tCB (hLen K) (tCons (tOp (rIx K) (tOp (rIx K) (mV 2) (mV 3)) (tC (.int 4))) tNil)) tNil)) (gName 4)
    (mIf (mTest (tOp (mEq K) (tCall (sp__law_draw K A) [] E0 (tCons (mV 0) (tCons (tC (.int 3)) tNil))) (tC (.int 0))))
    (tSeq (tAsg (tCall (sp__law_draw K A) [] E0 (tCons (mV 0) (tCons (tC (.int 256)) tNil))) (gSub (tOp (rIx K) (tOp (rIx K) (mV 2) (mV 3)) (tC (.int 4))) (mV 4) rSetL))
  (tAsg (tOp (rIx K) (tOp (rIx K) (tOp (rIx K) (mV 2) (mV 3)) (tC (.int 4))) (mV 4)) (gSub (mV 1) (tOp (mAdd K) (tOp (mAdd K) (tOp (rIx K) (tCall (sp__law_offsets K A) [] E0 (tCons (mV 2) tNil)) (mV 3)) (tC (.int 8))) (mV 4)) rSetL)))
    tNext))
theorem rd__law_body {K : PySem.W.Frag} {A : Ad} {vs : List V} {H : Hp} {Q : VK} {E : XK} (h : sp__law_body K A vs H Q E) : t__law_body K A { nx := fun _ H' => Q .non H', rt := Q } (start ["_law_box", "_law_data", "_law_rows", "_law_at", "_law_k"] vs) H := by
  obtain ⟨b, g, d, rp, ds, i, rs, j, x, rfl, hL, ok, hx, xk, i0, i1, k⟩ := h
  show t__law_body K A _ [some (.ref b), some (.ref d), some (.ref rp), some (.int j), none] H
  unfold t__law_body
  have hb := blk_get hx
  have okr := ok.get hb
  have ub := ok.u hb
  have uu := ok.2
  have b1 := okr.b1
  have hj : j < rs.length := (List.getElem?_eq_some_iff.mp hx).1
  have hll := len_le ok.1
  rw [blk_len] at hll
  have es := congrArg rbE (rb_split hx)
  rw [rbE_app, rbE_app] at es
  have hix : atI (rbV rs) (j : Nat) = some (.ref x.1) := by
    refine at_nn (by omega) ?_
    rw [Int.toNat_natCast]
    unfold rbV
    rw [List.getElem?_map, hx]
    rfl
  have h0 : Led K H [b, d, x.2.1] H ([(x.2.1, .raw (.lst (x.2.2.body.map V.int))), (b, .raw (.lst [.ref g, .int i])), (g, .raw (.lst (ds.map V.int))), (d, .raw (.lst ((wr ((blk rs).set j (setB x.2.2 x.2.2.body))).map V.int))), (rp, .raw (.lst (rbV rs))), (x.1, .raw (.lst (rowL x)))] ++ (rbE (rs.take j) ++ rbE (rs.drop (j + 1)))) [] := by
    rw [set_same hb]
    have q : Led K H [b, d, x.2.1] H ([(b, .raw (.lst [.ref g, .int i])), (g, .raw (.lst (ds.map V.int))), (d, .raw (.lst ((wr (blk rs)).map V.int))), (rp, .raw (.lst (rbV rs)))] ++ rbE rs) [] := Led.enter (X := []) hL _
    rw [es] at q
    have q2 := q.perm (List.Perm.append_left _ (List.perm_append_comm_assoc (rbE (rs.take j)) (rbE [x]) (rbE (rs.drop (j + 1)))))
    rw [← List.append_assoc] at q2
    exact q2.pickT (A := [(b, .raw (.lst [.ref g, .int i])), (g, .raw (.lst (ds.map V.int))), (d, .raw (.lst ((wr (blk rs)).map V.int))), (rp, .raw (.lst (rbV rs))), (x.1, .raw (.lst (rowL x))), (x.2.1, .raw (.lst (x.2.2.body.map V.int)))]) [5, 0, 1, 2, 3, 4]
  have hrow := (rowsAt_of hL (p := rp) (acc := rs) (by simp) fun e he => List.mem_append_right _ he).get hx
  walk_at "gs"
  refine h_ixL 4 h0 rfl hix ?_
  walk_at "gs"
  refine h_ixQ (SqL.of hrow.1) rfl ?_
  walk_at "gs"
  clear hrow
  refine lpR (fun t σ H2 => ∃ (y4 : Option V) (bd : List Int) (i' : Int), σ = [some (.ref b), some (.ref d), some (.ref rp), some (.int j), y4] ∧ bd.length = x.2.2.body.length ∧ Byt bd ∧ (i ≤ i' ∧ i' ≤ i + 2 * t) ∧
      Led K H [b, d, x.2.1] H2 ((x.2.1, .raw (.lst (bd.map V.int))) :: (b, .raw (.lst [.ref g, .int i'])) :: (g, .raw (.lst (ds.map V.int))) :: (d, .raw (.lst ((wr ((blk rs).set j (setB x.2.2 bd))).map V.int))) :: (rp, .raw (.lst (rbV rs))) :: (x.1, .raw (.lst (rowL x))) :: (rbE (rs.take j) ++ rbE (rs.drop (j + 1)))) [])
    ⟨_, x.2.2.body, i, rfl, rfl, okr.by', by omega, h0⟩ ?_ ?_
  · clear h0 hL
    rintro t σ H2 ht ⟨y4, bd, i', rfl, hbl, hby, hi', h2⟩
    rw [List.length_map] at ht
    have ht : t < x.2.2.body.length := by omega
    walk_at "gs"
    rename_i z1 H3 z10 z11 h3
    clear h2
    refine h_br (fun c => ?_) (fun c => ?_)
    · walk_at "gs"
      rename_i z H4 z0 z9 h4
      clear h3
      refine h_ixL 4 h4 rfl hix ?_
      walk_at "gs"
      refine h_ixL 5 h4 rfl (at_nn (by decide) rfl) ?_
      walk_at "gs"
      refine h_setI 0 h4 rfl (.inr (by simp)) (by omega) (by rw [hbl]; omega) fun H5 h5 => ?_
      rw [show (0 + (t : Int)).toNat = t by omega] at h5
      have hbl' : (bd.set t z).length = x.2.2.body.length := by rw [List.length_set]; exact hbl
      have hby' : Byt (bd.set t z) := fun y hy => by
        rcases List.mem_or_eq_of_mem_set hy with hy | hy
        · exact hby y hy
        · rw [hy]; omega
      generalize hbd : bd.set t z = bd' at h5 hbl' hby'
      clear h4
      refine h_ixL 4 h5 rfl hix ?_
      walk_at "gs"
      refine h_ixL 5 h5 rfl (at_nn (by decide) rfl) ?_
      walk_at "gs"
      refine h_ixI 0 h5 rfl (by omega) (by omega) ?_
      walk_at "gs"
      have hb2 : blk (rs.take j ++ ([(x.1, x.2.1, setB x.2.2 bd')] ++ rs.drop (j + 1))) = (blk rs).set j (setB x.2.2 bd') := by
        rw [blk_app, blk_app, blk_take, blk_drop]
        exact (List.set_eq_take_append_cons_drop.trans (if_pos (by rw [blk_len]; exact hj))).symm
      have hv2 : rbV (rs.take j ++ ([(x.1, x.2.1, setB x.2.2 bd')] ++ rs.drop (j + 1))) = rbV rs := by
        have q := congrArg rbV (rb_split hx)
        rw [rbV_app, rbV_app] at q
        rw [rbV_app, rbV_app, q]
        rfl
      have so := setB_ok okr xk hbl hby
      have us := unt_set (x := setB x.2.2 bd') hb rfl
      have us0 := unt_set (x := setB x.2.2 bd) hb rfl
      have ok0 := set_ok ok hb (x := setB x.2.2 bd) rfl so
      have g0 : ((blk rs).set j (setB x.2.2 bd))[j]? = some (setB x.2.2 bd) := by rw [List.getElem?_set, if_pos rfl, if_pos (by rw [blk_len]; exact hj)]
      have g1 : ((blk rs).set j (setB x.2.2 bd'))[j]? = some (setB x.2.2 bd') := by rw [List.getElem?_set, if_pos rfl, if_pos (by rw [blk_len]; exact hj)]
      refine ⟨rp, rs.take j ++ ([(x.1, x.2.1, setB x.2.2 bd')] ++ rs.drop (j + 1)), rfl, rowsAt_of h5 (by rw [hv2]; simp) (fun e he => ?_), ?_, fun p H6 s6 np hp => ?_⟩
      · rw [rbE_app, rbE_app] at he
        rcases List.mem_append.mp he with he | he
        · simp [he]
        · rcases List.mem_append.mp he with he | he
          · rcases List.mem_cons.mp he with rfl | he
            · exact List.mem_cons_of_mem _ (List.mem_cons_of_mem _ (List.mem_cons_of_mem _ (List.mem_cons_of_mem _ (List.mem_cons_of_mem _ List.mem_cons_self))))
            · cases List.mem_singleton.mp he
              exact List.mem_cons_self
          · simp [he]
      · rw [← blk_len, hb2, List.length_set, blk_len]
        omega
      rw [hb2] at hp
      have h6 := h5.new (e := .raw (.lst ((offs ((blk rs).set j (setB x.2.2 bd'))).map V.int))) s6 np hp
      clear h5
      refine h_ixI 0 h6 rfl (by omega) (by rw [show (offs ((blk rs).set j (setB x.2.2 bd'))).length = rs.length by unfold offs; rw [List.length_map, List.length_range, List.length_set, blk_len]]; omega) ?_
      rw [Int.toNat_natCast, List.getD_eq_getElem?_getD, offs_at g1, us.2 j]
      walk_at "gs"
      have w3 := (wr_at ok0 g0).2.2
      rw [us0.2 j] at w3
      have ub' : (setB x.2.2 bd).u = x.2.2.u := rfl
      refine h_setI 4 h6 rfl (.inr (by simp)) (by show (0 : Int) ≤ (offn (blk rs) j : Nat) + 8 + (0 + t); omega) (by show ((offn (blk rs) j : Nat) : Int) + 8 + (0 + t) < _; omega) fun H7 h7 => ?_
      refine ⟨_, bd', i' + 1 + 1, rfl, hbl', hby', by omega, ?_⟩
      have e7 : (wr ((blk rs).set j (setB x.2.2 bd))).set (((offn (blk rs) j : Nat) : Int) + 8 + (0 + (t : Int))).toNat (bd'.getD (0 + (t : Int)).toNat 0) = wr ((blk rs).set j (setB x.2.2 bd')) := by
        have q := wr_body ok0 g0 (k := t) (z := z) (by show t < bd.length; omega)
        rw [us0.2 j, List.set_set] at q
        rw [show (((offn (blk rs) j : Nat) : Int) + 8 + (0 + (t : Int))).toNat = offn (blk rs) j + 8 + t by omega, show (0 + (t : Int)).toNat = t by omega, ← hbd, List.getD_eq_getElem?_getD, List.getElem?_set, if_pos rfl, if_pos (by omega)]
        exact q
      have h8 := h7.tlL
      rw [show (some ((offn (blk rs) j : Nat) : Int)).getD 0 = ((offn (blk rs) j : Nat) : Int) from rfl, e7] at h8
      exact h8
    · walk_at "gs"
      exact ⟨_, bd, i' + 1, rfl, hbl, hby, by omega, h3⟩
  · clear h0
    rintro σ H2 ⟨y4, bd, i', rfl, hbl, hby, hi', h2⟩
    rw [List.length_map] at hi'
    walk_at "gs"
    have hb2 : blk (rs.take j ++ ([(x.1, x.2.1, setB x.2.2 bd)] ++ rs.drop (j + 1))) = (blk rs).set j (setB x.2.2 bd) := by
      rw [blk_app, blk_app, blk_take, blk_drop]
      exact (List.set_eq_take_append_cons_drop.trans (if_pos (by rw [blk_len]; exact hj))).symm
    have hv2 : rbV (rs.take j ++ ([(x.1, x.2.1, setB x.2.2 bd)] ++ rs.drop (j + 1))) = rbV rs := by
      have q := congrArg rbV (rb_split hx)
      rw [rbV_app, rbV_app] at q
      rw [rbV_app, rbV_app, q]
      rfl
    have so := setB_ok okr xk hbl hby
    refine k (rs.take j ++ ([(x.1, x.2.1, setB x.2.2 bd)] ++ rs.drop (j + 1))) i' H2 (by rw [hb2]; exact set_ok ok hb rfl so) (by rw [hb2]; exact (unt_set (x := setB x.2.2 bd) hb rfl).1) (by omega) (by omega) ?_ ?_
    · rw [es, rbE_app, rbE_app]
      simp only [List.map_append]
      rfl
    · rw [hb2, hv2, rbE_app, rbE_app]
      have q := (show Led K H [b, d, x.2.1] H2 ([(x.2.1, .raw (.lst (bd.map V.int))), (b, .raw (.lst [.ref g, .int i'])), (g, .raw (.lst (ds.map V.int))), (d, .raw (.lst ((wr ((blk rs).set j (setB x.2.2 bd))).map V.int))), (rp, .raw (.lst (rbV rs))), (x.1, .raw (.lst (rowL x)))] ++ (rbE (rs.take j) ++ rbE (rs.drop (j + 1)))) [] from h2).pickT [1, 2, 3, 4, 5, 0]
      have q2 : Led K H [b, d, x.2.1] H2 ([(b, .raw (.lst [.ref g, .int i'])), (g, .raw (.lst (ds.map V.int))), (d, .raw (.lst ((wr ((blk rs).set j (setB x.2.2 bd))).map V.int))), (rp, .raw (.lst (rbV rs)))] ++ (rbE [(x.1, x.2.1, setB x.2.2 bd)] ++ (rbE (rs.take j) ++ rbE (rs.drop (j + 1))))) [] := q
      exact q2.perm (List.Perm.append_left _ (List.perm_append_comm_assoc _ _ _))

def t__law_right (K : PySem.W.Frag) (A : Ad) : TS :=
  (tSeq (mIf (mTest (tOp (mNe K) (mV 0) (tCall (sp__law_written K A) [] E0 (tCons (mV 1) tNil))))
    (tRet (tC (.bl false)))
    tNext)
  (tSeq (tAsg (tCall (sp__law_offsets K A) [] E0 (tCons (mV 1) tNil)) (gName 2))
  (tSeq (tAsg (tLst tNil) (gName 3))
  (tSeq (tFor (jR1 (tCons (tCB (hLen K) (tCons (mV 1) tNil)) tNil)) (gName 4)
    (tDrop (tBM K "list" rAppend (mV 3) (tCons (tTup (tCons (tOp (rIx K) (mV 2) (mV 4)) (tCons (tOp mMul (tC (.int 8)) (tOp (rIx K) (tOp (rIx K) (mV 1) (mV 4)) (tC (.int 0)))) (tCons (tOp (rIx K) (tOp (rIx K) (mV 1) (mV 4)) (tC (.int 3))) (tCons (tOp (rIx K) (tOp (rIx K) (mV 1) (mV 4)) (tC (.int 2))) tNil))))) tNil))))
  (tSeq (mIf (tNot (mTr K (tCall (sp__law_list_is K A) [] E0 (tCons (tCall (sp_blocks K A) [] E0 (tCons (mV 0) tNil)) (tCons (mV 3) tNil)))))
    (tRet (tC (.bl false)))
    tNext)
  (tSeq (mIf (tNot (mTr K (tCall (sp__law_same K A) [] E0 (tCons (tCall (sp_used K A) [] E0 (tCons (mV 0) tNil)) (tCons (tOp mMul (tC (.int 8)) (tCall (sp__law_units K A) [] E0 (tCons (tLc (jL K (mV 1)) (gName 8) (mTest (tOp (mNe K) (tOp (rIx K) (mV 8) (tC (.int 3))) (tC (.int 0)))) (mV 8) [8]) tNil))) tNil)))))
    (tRet (tC (.bl false)))
    tNext)
  (tSeq (tFor (jR2 (tCons (tC (.int 1)) (tCons (tC (.int 7)) tNil))) (gName 5)
    (tFor (jL K (tLst (tCons (tC (.int 1)) (tCons (tC (.int 2)) (tCons (tC (.int 128)) (tCons (tC (.int 129)) tNil)))))) (gName 6)
    (tSeq (tAsg (tLc (jR1 (tCons (tCB (hLen K) (tCons (mV 1) tNil)) tNil)) (gName 4) (tAnd (mTest (tOp (mEq K) (tOp (rIx K) (tOp (rIx K) (mV 1) (mV 4)) (tC (.int 3))) (mV 5))) (mTest (tOp (mEq K) (tOp (rIx K) (tOp (rIx K) (mV 1) (mV 4)) (tC (.int 2))) (mV 6)))) (tOp (rIx K) (mV 2) (mV 4)) [4]) (gName 7))
  (mIf (tAnd (mTest (tOp mLt (tCB (hLen K) (tCons (mV 7) tNil)) (tC (.int 2)))) (tNot (mTr K (tCall (sp__law_same K A) [] E0 (tCons (tCall (sp_find_block K A) [] E0 (tCons (mV 0) (tCons (mV 5) (tCons (mV 6) tNil)))) (tCons (tOp (rIx K) (tOp (mAdd K) (mV 7) (tLst (tCons (tC .non) tNil))) (tC (.int 0))) tNil))))))
    (tRet (tC (.bl false)))
    tNext))))
  (tRet (tC (.bl true))))))))))
theorem rd__law_right {K : PySem.W.Frag} {A : Ad} {vs : List V} {H : Hp} {Q : VK} {E : XK} (h : sp__law_right K A vs H Q E) : t__law_right K A { nx := fun _ H' => Q .non H', rt := Q } (start ["_law_data", "_law_rows", "_law_offsets_here", "_law_due", "_law_k", "_law_number", "_law_version", "_law_found", "_law_row"] vs) H := by
  obtain ⟨d, rp, rs, rfl, hL, ok, k⟩ := h
  show t__law_right K A _ [some (.ref d), some (.ref rp), none, none, none, none, none, none, none] H
  unfold t__law_right
  have hll := len_le ok.1
  have hu := ok.2
  rw [blk_len] at hll
  have wl := wr_len ok.1
  have el : ∀ {p : Addr}, (H p = none ∨ p ∈ []) → H p = none := fun z => z.elim id fun z => nomatch z
  have hR := rowsAt_of hL (p := rp) (acc := rs) (by simp) fun e he => List.mem_append_right _ he
  have ev1 : (rbV rs).length = rs.length := by unfold rbV; rw [List.length_map]
  have hL : Led K H [] H [(d, .raw (.lst ((wr (blk rs)).map V.int))), (rp, .raw (.lst (rbV rs)))] [] := hL.hd
  walk_at "gs"
  refine ⟨rp, rs, rfl, hR, ok, fun p H1 s1 np hp => ?_⟩
  have h1 := hL.new (e := .raw (.lst ((wr (blk rs)).map V.int))) s1 np hp
  walk_at "gs"
  refine h_neSame 1 0 h1 rfl rfl rfl ?_
  walk_at "gs"
  have h1 := h1.tlL
  clear hp
  refine ⟨rp, rs, rfl, hR.same h1.same0, by omega, fun po H2 s2 npo hpo => ?_⟩
  have h2 := h1.new (e := .raw (.lst ((offs (blk rs)).map V.int))) s2 npo hpo
  clear hpo h1 hL s1 np
  walk_at "gs"
  rename_i pd H3 npd h3
  have h3 := h3.toD 0 rfl .nil
  clear h2
  refine lpR (fun t σ H4 => ∃ y4 : Option V, σ = [some (.ref d), some (.ref rp), some (.ref po), some (.ref pd), y4, none, none, none, none] ∧
      Led K H [] H4 [(pd, .dl ((tups (blk rs)).take t)), (po, .raw (.lst ((offs (blk rs)).map V.int))), (d, .raw (.lst ((wr (blk rs)).map V.int))), (rp, .raw (.lst (rbV rs)))] [])
    ⟨_, rfl, h3⟩ ?_ ?_
  · clear h3
    rintro t σ H4 ht ⟨y4, rfl, h4⟩
    rw [ev1] at ht
    have ht : t < rs.length := by omega
    have hy : rs[t]? = some rs[t] := List.getElem?_eq_getElem ht
    generalize rs[t] = y at hy
    have hix : atI (rbV rs) (0 + (t : Nat)) = some (.ref y.1) := by
      refine at_nn (by omega) ?_
      rw [show (0 + (t : Int)).toNat = t by omega]
      unfold rbV
      rw [List.getElem?_map, hy]
      rfl
    have hb := blk_get hy
    have okr := ok.get hb
    have hrow := (hR.same h4.same0).get hy
    have lo : (offs (blk rs)).length = rs.length := by unfold offs; rw [List.length_map, List.length_range, blk_len]
    walk_at "gs"
    refine h_ixI 1 h4 rfl (by omega) (by omega) ?_
    rw [List.getD_eq_getElem?_getD, show (0 + (t : Int)).toNat = t by omega, offs_at hb]
    walk_at "gs"
    refine h_ixL 3 h4 rfl hix ?_
    walk_at "gs"
    refine h_ixQ (SqL.of hrow.1) rfl ?_
    walk_at "gs"
    refine h_ixL 3 h4 rfl hix ?_
    walk_at "gs"
    refine h_ixQ (SqL.of hrow.1) rfl ?_
    walk_at "gs"
    refine h_ixL 3 h4 rfl hix ?_
    walk_at "gs"
    refine h_ixQ (SqL.of hrow.1) rfl ?_
    walk_at "gs"
    rename_i tv H5 h5 H6 h6
    refine ⟨_, rfl, ?_⟩
    rw [List.take_add_one, tups_get hb]
    have e8 : (8 : Int) * (y.2.2.u : Int) = ((8 * y.2.2.u : Nat) : Int) := by omega
    rw [e8] at h6
    exact h6.tl
  · rintro σ H4 ⟨y4, rfl, h4⟩
    rw [ev1, List.take_of_length_le (by rw [tups_len, blk_len]; omega)] at h4
    clear h3
    walk_at "gs"
    refine ⟨d, blk rs, rfl, h4.raw 2 rfl, ok, fun p H5 s5 np hp => ?_⟩
    have h5 := h4.new s5 np hp
    walk_at "gs"
    refine ⟨p, pd, tups (blk rs), _, _, rfl, h5.at_ 0 _ _ rfl, h5.at_ 1 _ _ rfl, shw_tups ok, by decide, by rw [tups_len, blk_len]; omega, fun H6 s6 => ?_⟩
    have h6 := (h5.same s6).tlL.tlL
    clear h4 h5 hp
    walk_at "gs"
    refine ⟨d, blk rs, rfl, h6.raw 1 rfl, ok, fun H7 s7 => ?_⟩
    have h7 := h6.same s7
    clear h6
    walk_at "gs"
    refine lcL h7 (fun p i H2 => (H p = none ∨ p ∈ []) ∧ Led K H [] H2 [(p, .raw (.lst (rbV (usedR (rs.take i))))), (po, .raw (.lst ((offs (blk rs)).map V.int))), (d, .raw (.lst ((wr (blk rs)).map V.int))), (rp, .raw (.lst (rbV rs)))] [])
      (fun p H2 np h2 => ⟨np, h2⟩) (fun p i H2 _ h2 => h2.2.sqL 3 rfl) ?_ ?_
    · rintro p i x H2 hx ⟨np, h2⟩
      obtain ⟨y, hy, rfl⟩ := rbV_get hx
      have hrow := (hR.same h2.same0).get hy
      have okr := ok.get (blk_get hy)
      have hsn := usedR_snoc hy
      have hal : (usedR (rs.take i)).length ≤ 100 := Nat.le_trans (List.length_filter_le _ _) (by rw [List.length_take]; omega)
      walk_at "gs"
      refine h_ixQ (SqL.of hrow.1) rfl ?_
      walk_at "gs"
      refine h_itn (fun c0 => ?_) (fun c0 => ?_)
      · have yf : y.2.2.fr = false := by
          cases z : y.2.2.fr with
          | false => rfl
          | true => exact absurd ((fr_n okr).mpr z) (by omega)
        rw [if_neg (by rw [yf]; exact Bool.false_ne_true)] at hsn
        walk_at "gs"
        obtain ⟨acc2, a1, a2, a3⟩ := h_accL (y := .ref y.1) 0 h2 rfl np (by unfold rbV; rw [List.length_map, sizeLine_eq]; omega)
        refine ⟨acc2, a1, a2, np, ?_⟩
        rw [hsn, rbV_app]
        exact a3
      · have yf : y.2.2.fr = true := (fr_n okr).mp (by omega)
        rw [if_pos yf, List.append_nil] at hsn
        rw [hsn]
        exact ⟨np, h2⟩
    rintro up H8 ⟨nup, h8⟩
    rw [ev1, List.take_of_length_le (Nat.le_refl _)] at h8
    have hal : (usedR rs).length ≤ 100 := Nat.le_trans (List.length_filter_le _ _) (by omega)
    clear h7
    walk_at "gs"
    refine ⟨up, usedR rs, rfl, ⟨h8.raw 0 rfl, fun x hx => (hR.same h8.same0).r x (List.mem_filter.mp hx).1⟩, by omega, fun H9 s9 => ?_⟩
    rw [blk_used]
    have h9 := (h8.same s9).tlL
    clear h8 s9
    have eu := usedU_kept (blk rs)
    have ku := kept_unt (blk rs)
    walk_at "gs"
    refine h_sameI (by omega) (by omega) ?_
    walk_at "gs"
    refine lpR (fun t σ H2 => ∃ y4 y5 y6 y7 : Option V, σ = [some (.ref d), some (.ref rp), some (.ref po), some (.ref pd), y4, y5, y6, y7, none] ∧ Led K H [] H2 [(po, .raw (.lst ((offs (blk rs)).map V.int))), (d, .raw (.lst ((wr (blk rs)).map V.int))), (rp, .raw (.lst (rbV rs)))] [])
      ⟨_, _, _, _, rfl, h9⟩ ?_ ?_
    · clear h9
      rintro t σ H2 ht ⟨y4, y5, y6, y7, rfl, h2⟩
      walk_at "gs"
      rename_i lq H3 nlq h3
      clear h2
      refine lpL (xs := ([1, 2, 128, 129] : List Int).map V.int) (fun i σ H4 => ∃ y4 y6 y7 : Option V, σ = [some (.ref d), some (.ref rp), some (.ref po), some (.ref pd), y4, some (.int (1 + (t : Int))), y6, y7, none] ∧
          Led K H [] H4 [(lq, .raw (.lst (([1, 2, 128, 129] : List Int).map V.int))), (po, .raw (.lst ((offs (blk rs)).map V.int))), (d, .raw (.lst ((wr (blk rs)).map V.int))), (rp, .raw (.lst (rbV rs)))] [])
        ⟨_, _, _, rfl, h3⟩ (fun i σ H4 _ ⟨_, _, _, _, h4⟩ => h4.sqL 0 rfl) ?_ ?_
      · clear h3
        rintro i xv σ H4 hxv ⟨y4, y6, y7, rfl, h4⟩
        obtain ⟨z, hz, rfl⟩ := map_get hxv
        walk_at "gs"
        refine lcR h4 (fun p i H5 => ∃ js : List Nat, (H p = none ∨ p ∈ []) ∧ js.length ≤ i ∧ Led K H [] H5 [(p, .raw (.lst ((js.map fun j => (offn (blk rs) j : Int)).map V.int))), (lq, .raw (.lst (([1, 2, 128, 129] : List Int).map V.int))), (po, .raw (.lst ((offs (blk rs)).map V.int))), (d, .raw (.lst ((wr (blk rs)).map V.int))), (rp, .raw (.lst (rbV rs)))] [] ∧
            ((js = [] ∧ ∀ (j : Nat) y, j < i → (blk rs)[j]? = some y → (!y.fr && (decide ((y.n : Int) = 1 + (t : Int)) && decide ((y.v : Int) = z))) = false) ∨ ∃ j0 rest, js = j0 :: rest ∧ found (blk rs) (1 + (t : Int)) z = some j0))
          (fun p H5 np h5 => ⟨[], np, Nat.le_refl _, h5, .inl ⟨rfl, fun j y w => absurd w (Nat.not_lt_zero _)⟩⟩) ?_ ?_
        · clear h4
          rintro p m H5 hm ⟨js, np, hjl, h5, alt⟩
          rw [ev1] at hm
          have hm : m < rs.length := by omega
          have hy : rs[m]? = some rs[m] := List.getElem?_eq_getElem hm
          generalize rs[m] = y at hy
          have hix : atI (rbV rs) (0 + (m : Nat)) = some (.ref y.1) := by
            refine at_nn (by omega) ?_
            rw [show (0 + (m : Int)).toNat = m by omega]
            unfold rbV
            rw [List.getElem?_map, hy]
            rfl
          have hb := blk_get hy
          have okr := ok.get hb
          have hrow := (hR.same h5.same0).get hy
          have lo : (offs (blk rs)).length = rs.length := by unfold offs; rw [List.length_map, List.length_range, blk_len]
          have no : ¬ ((y.2.2.n : Int) = 1 + (t : Int) ∧ (y.2.2.v : Int) = z) → ∃ js : List Nat, (H p = none ∨ p ∈ []) ∧ js.length ≤ m + 1 ∧ Led K H [] H5 [(p, .raw (.lst ((js.map fun j => (offn (blk rs) j : Int)).map V.int))), (lq, .raw (.lst (([1, 2, 128, 129] : List Int).map V.int))), (po, .raw (.lst ((offs (blk rs)).map V.int))), (d, .raw (.lst ((wr (blk rs)).map V.int))), (rp, .raw (.lst (rbV rs)))] [] ∧
              ((js = [] ∧ ∀ (j : Nat) y, j < m + 1 → (blk rs)[j]? = some y → (!y.fr && (decide ((y.n : Int) = 1 + (t : Int)) && decide ((y.v : Int) = z))) = false) ∨ ∃ j0 rest, js = j0 :: rest ∧ found (blk rs) (1 + (t : Int)) z = some j0) := fun q => by
            refine ⟨js, np, by omega, h5, alt.imp_left fun w => ⟨w.1, fun j y2 hj hy2 => ?_⟩⟩
            by_cases c : j < m
            · exact w.2 j y2 c hy2
            · have : j = m := by omega
              subst this
              rw [hb] at hy2
              cases hy2
              by_cases c1 : (y.2.2.n : Int) = 1 + (t : Int)
              · rw [decide_eq_false fun c2 => q ⟨c1, c2⟩, Bool.and_false, Bool.and_false]
              · rw [decide_eq_false c1, Bool.false_and, Bool.and_false]
          walk_at "gs"
          refine h_ixL 4 h5 rfl hix ?_
          walk_at "gs"
          refine h_ixQ (SqL.of hrow.1) rfl ?_
          walk_at "gs"
          refine h_ite (fun c0 => ?_) (fun c0 => ?_)
          · walk_at "gs"
            refine h_ixL 4 h5 rfl hix ?_
            walk_at "gs"
            refine h_ixQ (SqL.of hrow.1) rfl ?_
            walk_at "gs"
            refine h_ite (fun c1 => ?_) (fun c1 => ?_)
            · walk_at "gs"
              refine h_ixI 2 h5 rfl (by omega) (by omega) ?_
              rw [List.getD_eq_getElem?_getD, show (0 + (m : Int)).toNat = m by omega, offs_at hb]
              obtain ⟨acc2, a1, a2, a3⟩ := h_accL (y := .int (offn (blk rs) m)) 0 h5 rfl np (by rw [List.length_map, List.length_map, sizeLine_eq]; omega)
              refine ⟨acc2, a1, a2, js ++ [m], np, by rw [List.length_append, List.length_singleton]; omega, ?_, .inr ?_⟩
              · rw [List.map_append, List.map_append]
                exact a3
              · rcases alt with ⟨rfl, hn⟩ | ⟨j0, rest, rfl, hp⟩
                · refine ⟨m, [], rfl, idx_some hb ?_ hn⟩
                  have yf : y.2.2.fr = false := by
                    cases w : y.2.2.fr with
                    | false => rfl
                    | true => exact absurd ((fr_n okr).mpr w) (by omega)
                  show (!y.2.2.fr && (decide ((y.2.2.n : Int) = 1 + (t : Int)) && decide ((y.2.2.v : Int) = z))) = true
                  rw [yf, decide_eq_true c0, decide_eq_true c1]
                  rfl
                · exact ⟨j0, rest ++ [m], rfl, hp⟩
            · exact no fun w => c1 w.2
          · exact no fun w => c0 w.1
        · clear h4
          rintro p H5 ⟨js, np, hjl, h5, alt⟩
          rw [ev1] at alt hjl
          walk_at "gs"
          refine h_ite (fun c0 => ?_) (fun c0 => ?_)
          · walk_at "gs"
            refine ⟨d, blk rs, _, _, rfl, h5.raw 3 rfl, ok, fun H6 s6 => ?_⟩
            have h6 := h5.same s6
            clear h5
            walk_at "gs"
            rename_i pn H7 npn h7
            refine h_catG 1 0 h7 rfl rfl (by rw [List.length_map, List.length_map, sizeLine_eq]; simp only [List.length_cons, List.length_nil]; omega) fun pc H8 npc h8 => ?_
            clear h7 h6
            walk_at "gs"
            rcases alt with ⟨rfl, hn⟩ | ⟨j0, rest, rfl, hp⟩
            · have hf : found (blk rs) (1 + (t : Int)) z = none := idx_none fun j y hy => hn j y (by have := (List.getElem?_eq_some_iff.mp hy).1; rw [blk_len] at this; omega) hy
              rw [hf]
              refine h_ixL 0 h8 rfl (at_nn (by decide) rfl) ?_
              walk_at "gs"
              refine h_same (.non) (.non) shw_none ?_
              walk_at "gs"
              exact ⟨_, _, _, rfl, h8.tlL.tlL.tlL⟩
            · rw [hp]
              have bo : offn (blk rs) j0 ≤ 800 := by
                have := unt_take (blk rs) j0
                unfold offn
                omega
              refine h_ixL 0 h8 rfl (at_nn (by decide) rfl) ?_
              walk_at "gs"
              refine h_sameI rfl (by omega) ?_
              walk_at "gs"
              exact ⟨_, _, _, rfl, h8.tlL.tlL.tlL⟩
          · walk_at "gs"
            exact ⟨_, _, _, rfl, h5.tlL⟩
      · clear h3
        rintro σ H4 ⟨y4, y6, y7, rfl, h4⟩
        exact ⟨_, _, _, _, rfl, h4.tlL⟩
    · rintro σ H2 ⟨y4, y5, y6, y7, rfl, h2⟩
      walk_at "gs"
      exact k H2 h2.same0

theorem takeR_ok {bs : List Blk} (ok : BOk bs) {m k v n j : Nat} {bs' : List Blk} (h : takeR bs m k v n = some (bs', j)) (m1 : 1 ≤ m) (k0 : k ≠ 0) (k1 : k < 256) (v1 : v < 256) (n0 : n ≠ 0) (n1 : n < 2 ^ 31) : BOk bs' ∧ unt bs' = unt bs ∧ bs'[j]? = some (newB m k v n) := by
  unfold takeR at h
  by_cases c : unt bs < usedU bs + m
  · rw [if_pos c] at h
    exact nomatch h
  · rw [if_neg c] at h
    have h := Option.some.inj h
    cases hp : place bs m with
    | some j1 =>
      rw [hp] at h
      cases h
      obtain ⟨r, hr, _, hm⟩ := place_spec hp
      obtain ⟨q1, q2, q3, _⟩ := putAt_ok ok hr m1 hm k0 k1 v1 n0 n1
      exact ⟨q1, q2, q3⟩
    | none =>
      rw [hp] at h
      cases h
      obtain ⟨t1, t2, t3⟩ := place_together ok m1 c
      have tk := together_ok ok
      obtain ⟨q1, q2, q3, _⟩ := putAt_ok tk.1 t2 m1 t3 k0 k1 v1 n0 n1
      exact ⟨q1, q2.trans tk.2, q3⟩
theorem joined_unt {rs : List Blk} (ok : BOk rs) : unt (joined rs) = unt rs := by
  have h := (joined_inv ok rs.length (Nat.le_refl _)).2
  rw [List.take_of_length_le (Nat.le_refl _)] at h
  exact h
theorem fr_keys {K : PySem.W.Frag} {H H1 : Hp} {rs rs' : RB} (hk : keysOk K H1 rs rs') (f : ∀ e ∈ rbE rs, H e.1 = none) (g : ∀ p, H1 p = none → H p = none) : ∀ e ∈ rbE rs', H e.1 = none := fun e he => by
  rcases hk e he with m | m
  · obtain ⟨y, hy, e2⟩ := List.mem_map.mp m
    rw [← e2]
    exact f y hy
  · exact g _ m
theorem fr_same {H : Hp} {rs rs' : RB} (hk : (rbE rs').map (·.1) = (rbE rs).map (·.1)) (f : ∀ e ∈ rbE rs, H e.1 = none) : ∀ e ∈ rbE rs', H e.1 = none := fun e he => by
  have m : e.1 ∈ (rbE rs).map (·.1) := by
    rw [← hk]
    exact List.mem_map.mpr ⟨e, he, rfl⟩
  obtain ⟨y, hy, e2⟩ := List.mem_map.mp m
  rw [← e2]
  exact f y hy
theorem keys_mine {K : PySem.W.Frag} {H1 : Hp} {rs rs' : RB} {rp : Addr} {er : Ent} {F : List (Addr × Ent)} (hk : keysOk K H1 rs rs') (hF : ∀ e ∈ F, H1 e.1 = none) : ∀ e ∈ F ++ rbE rs', e.1 ∈ (((rp, er) :: rbE rs).map (·.1)) ∨ H1 e.1 = none := fun e he => by
  rcases List.mem_append.mp he with he | he
  · exact .inr (hF e he)
  · exact (hk e he).imp_left fun z => List.mem_cons_of_mem _ z
theorem blk_set {rs : RB} {j : Nat} {x y : Addr × Addr × Blk} (h : rs[j]? = some x) : blk (rs.take j ++ ([y] ++ rs.drop (j + 1))) = (blk rs).set j y.2.2 := by
  rw [blk_app, blk_app, blk_take, blk_drop]
  exact (List.set_eq_take_append_cons_drop.trans (if_pos (by rw [blk_len]; exact (List.getElem?_eq_some_iff.mp h).1))).symm
/-- what the law holds between its turns -/
abbrev LawM (K : PySem.W.Frag) (H : Hp) (a b g d : Addr) (ds : List Int) (B : Int) (σ : L2.St) (H2 : Hp) : Prop := ∃ (rp : Addr) (rs : RB) (j : Int) (y5 y6 y7 y8 y9 y10 y11 y12 y13 : Option V),
  σ = [some (.ref a), some (.ref b), some (.int (unt (blk rs) : Nat)), some (.ref d), some (.ref rp), y5, y6, y7, y8, y9, y10, y11, y12, y13] ∧ BOk (blk rs) ∧ unt (blk rs) ≤ 43 ∧ (0 ≤ j ∧ j ≤ B) ∧ (∀ e ∈ rbE rs, H e.1 = none) ∧
  Led K H [] H2 ([(b, .raw (.lst [.ref g, .int j])), (g, .raw (.lst (ds.map V.int))), (d, .raw (.lst ((wr (blk rs)).map V.int))), (rp, .raw (.lst (rbV rs)))] ++ rbE rs) []
theorem h_and {p : Prop} [Decidable p] {b : Bool} {X A B : Prop} (hX : (b = true → A) → (b = false → B) → X) (h1 : p → b = true → A) (h2 : (¬ p ∨ b = false) → B) : if decide p = true then X else B := by
  by_cases c : p
  · rw [if_pos (decide_eq_true c)]
    exact hX (h1 c) fun z => h2 (.inr z)
  · rw [if_neg (by rw [decide_eq_false c]; exact Bool.false_ne_true)]
    exact h2 (.inl c)
theorem fr_app {H : Hp} {rs : RB} {y : Addr × Addr × Blk} (f : ∀ e ∈ rbE rs, H e.1 = none) (h1 : H y.1 = none) (h2 : H y.2.1 = none) : ∀ e ∈ rbE (rs ++ [y]), H e.1 = none := fun e he => by
  rw [rbE_app] at he
  rcases List.mem_append.mp he with he | he
  · exact f e he
  · rcases List.mem_cons.mp he with rfl | he
    · exact h1
    · cases List.mem_singleton.mp he
      exact h2
theorem fr_mid {H : Hp} {rs : RB} {i : Nat} {x y : Addr × Addr × Blk} (hx : rs[i]? = some x) (f : ∀ e ∈ rbE rs, H e.1 = none) (h1 : H y.1 = none) (h2 : H y.2.1 = none) : ∀ e ∈ rbE (rs.take i ++ ([y] ++ rs.drop (i + 1))), H e.1 = none := fun e he => by
  have es := congrArg rbE (rb_split hx)
  rw [rbE_app, rbE_app] at es
  rw [rbE_app, rbE_app] at he
  rcases List.mem_append.mp he with he | he
  · exact f e (by rw [es]; exact List.mem_append_left _ he)
  · rcases List.mem_append.mp he with he | he
    · rcases List.mem_cons.mp he with rfl | he
      · exact h1
      · cases List.mem_singleton.mp he
        exact h2
    · exact f e (by rw [es]; exact List.mem_append_right _ (List.mem_append_right _ he))

def t_law (K : PySem.W.Frag) (A : Ad) : TS :=
  (tSeq (tAsg (tLst (tCons (tCall (sp__law_digits K A) [] E0 (tCons (mV 0) (tCons (tC (.int 0)) (tCons (tC (.int 50)) tNil)))) (tCons (tC (.int 0)) tNil))) (gName 1))
  (tSeq (tAsg (tOp (mAdd K) (tC (.int 8)) (tCall (sp__law_draw K A) [] E0 (tCons (mV 1) (tCons (tC (.int 25)) tNil)))) (gName 2))
  (tSeq (tAsg (tCall (sp_empty K A) [] E0 (tCons (tOp mMul (tC (.int 8)) (mV 2)) tNil)) (gName 3))
  (tSeq (tAsg (tLst (tCons (tLst (tCons (mV 2) (tCons (tC (.int 0)) (tCons (tC (.int 0)) (tCons (tC (.int 0)) (tCons (tLst tNil) tNil)))))) tNil)) (gName 4))
  (tSeq (tFor (jR1 (tCons (tCall (sp__law_draw K A) [] E0 (tCons (mV 1) (tCons (tC (.int 25)) tNil))) tNil)) (gName 5)
    (tSeq (tAsg (tCall (sp__law_draw K A) [] E0 (tCons (mV 1) (tCons (tC (.int 8)) tNil))) (gName 6))
  (tSeq (tAsg (tLc (jR1 (tCons (tCB (hLen K) (tCons (mV 4) tNil)) tNil)) (gName 13) (mTest (tOp (mNe K) (tOp (rIx K) (tOp (rIx K) (mV 4) (mV 13)) (tC (.int 3))) (tC (.int 0)))) (mV 13) [13]) (gName 7))
  (mCut (mIf (mTest (tOp mLt (mV 6) (tC (.int 4))))
    (tSeq (tAsg (tLst (tCons (tOp (mAdd K) (tC (.int 1)) (tCall (sp__law_draw K A) [] E0 (tCons (mV 1) (tCons (tC (.int 6)) tNil)))) (tCons (tOp (mAdd K) (tC (.int 1)) (tCall (sp__law_draw K A) [] E0 (tCons (mV 1) (tCons (tC (.int 3)) tNil)))) (tCons (tOp (rIx K) (tLst (tCons (tC (.int 1)) (tCons (tC (.int 2)) (tCons (tC (.int 128)) (tCons (tC (.int 129)) tNil))))) (tCall (sp__law_draw K A) [] E0 (tCons (mV 1) (tCons (tC (.int 4)) tNil)))) (tCons (tOp (mAdd K) (tC (.int 1)) (tCall (sp__law_draw K A) [] E0 (tCons (mV 1) (tCons (tC (.int 6)) tNil)))) tNil))))) (gName 8))
  (tSeq (tAsg (tCall (sp__law_taken K A) [] E0 (tCons (mV 4) (tCons (mV 2) (tCons (tOp (rIx K) (mV 8) (tC (.int 0))) (tCons (tOp (rIx K) (mV 8) (tC (.int 1))) (tCons (tOp (rIx K) (mV 8) (tC (.int 2))) (tCons (tOp (rIx K) (mV 8) (tC (.int 3))) tNil))))))) (gName 9))
  (tSeq (tAsg (tCall (sp__law_take K A) [] E0 (tCons (mV 3) (tCons (tOp (rIx K) (mV 8) (tC (.int 0))) (tCons (tOp (rIx K) (mV 8) (tC (.int 1))) (tCons (tOp (rIx K) (mV 8) (tC (.int 2))) (tCons (tOp (rIx K) (mV 8) (tC (.int 3))) tNil)))))) (gName 10))
  (mIf (mTest (tOp mIsN (mV 9) (tC .non)))
    (mIf (mTest (tOp (mNe K) (mV 10) (tC (.str "full"))))
    (tRet (tC (.bl false)))
    tNext)
    (tSeq (tAsg (tOp (rIx K) (mV 9) (tC (.int 0))) (gName 4))
  (tSeq (mIf (tNot (mTr K (tCall (sp__law_same K A) [] E0 (tCons (mV 10) (tCons (tOp (rIx K) (tCall (sp__law_offsets K A) [] E0 (tCons (mV 4) tNil)) (tOp (rIx K) (mV 9) (tC (.int 1)))) tNil)))))
    (tRet (tC (.bl false)))
    tNext)
  (tDrop (tCall (sp__law_body K A) [] E0 (tCons (mV 1) (tCons (mV 3) (tCons (mV 4) (tCons (tOp (rIx K) (mV 9) (tC (.int 1))) tNil))))))))))))
    (mIf (tAnd (mTest (tOp mLt (mV 6) (tC (.int 6)))) (mTest (tOp mGt (tCB (hLen K) (tCons (mV 7) tNil)) (tC (.int 0)))))
    (tSeq (tAsg (tOp (rIx K) (mV 7) (tOp mMod (tCB mInt (tCons (tCall (sp__law_draw K A) [] E0 (tCons (mV 1) (tCons (tC (.int 90)) tNil))) tNil)) (tCB (hLen K) (tCons (mV 7) tNil)))) (gName 11))
  (tSeq (tDrop (tCall (sp_give_back K A) [] E0 (tCons (mV 3) (tCons (tOp (rIx K) (tCall (sp__law_offsets K A) [] E0 (tCons (mV 4) tNil)) (mV 11)) tNil))))
  (tAsg (tCall (sp__law_joined K A) [] E0 (tCons (tOp (mAdd K) (tOp (mAdd K) (tSl (uSl K) (mV 4) tNoPart (mPart (mV 11))) (tLst (tCons (tLst (tCons (tOp (rIx K) (tOp (rIx K) (mV 4) (mV 11)) (tC (.int 0))) (tCons (tC (.int 0)) (tCons (tC (.int 0)) (tCons (tC (.int 0)) (tCons (tLst tNil) tNil)))))) tNil))) (tSl (uSl K) (mV 4) (mPart (tOp (mAdd K) (mV 11) (tC (.int 1)))) tNoPart)) tNil)) (gName 4))))
    (mIf (mTest (tOp (mEq K) (mV 6) (tC (.int 6))))
    (tSeq (tDrop (tCall (sp_push_together K A) [] E0 (tCons (mV 3) tNil)))
  (tAsg (tCall (sp__law_together K A) [] E0 (tCons (mV 4) (tCons (mV 2) tNil))) (gName 4)))
    (mIf (mTest (tOp mLt (mV 2) (tC (.int 40))))
    (tSeq (tAsg (tOp (mAdd K) (tC (.int 1)) (tCall (sp__law_draw K A) [] E0 (tCons (mV 1) (tCons (tC (.int 4)) tNil)))) (gName 12))
  (tSeq (tAsg (tOp (mAdd K) (mV 2) (mV 12)) (gName 2))
  (tSeq (tDrop (tCall (sp_grow K A) [] E0 (tCons (mV 3) (tCons (tOp mMul (tC (.int 8)) (mV 2)) tNil))))
  (tAsg (tCall (sp__law_joined K A) [] E0 (tCons (tOp (mAdd K) (mV 4) (tLst (tCons (tLst (tCons (mV 12) (tCons (tC (.int 0)) (tCons (tC (.int 0)) (tCons (tC (.int 0)) (tCons (tLst tNil) tNil)))))) tNil))) tNil)) (gName 4)))))
    tNext))))
  (mIf (tNot (mTr K (tCall (sp__law_right K A) [] E0 (tCons (mV 3) (tCons (mV 4) tNil)))))
    (tRet (tC (.bl false)))
    tNext)))))
  (tRet (tC (.bl true))))))))
theorem h_andL {K : PySem.W.Frag} {H0 H : Hp} {S : List Addr} {L : List (Addr × Ent)} {I : List (V × PyData)} {p : Prop} [Decidable p] {a : Addr} {us : List V} {T U : TS} {D : Ends} {σ : L2.St} (n : Nat) (h : Led K H0 S H L I) (e : L[n]? = some (a, .raw (.lst us))) (h1 : p → 0 < us.length → T D σ H) (h2 : U D σ H) :
    if decide p = true then hLen K [.ref a] H (fun x H1 => mGt x (.int 0) H1 (toB fun b H1 => Br b T U D σ H1)) else U D σ H := by
  by_cases c : p
  · rw [if_pos (decide_eq_true c)]
    refine h_lenL n h e ?_
    walk_at "ds"
    exact h_br (fun c1 => h1 c (by omega)) fun _ => h2
  · rw [if_neg (by rw [decide_eq_false c]; exact Bool.false_ne_true)]
    exact h2
theorem rd_law {K : PySem.W.Frag} {A : Ad} {vs : List V} {H : Hp} {Q : VK} {E : XK} (h : sp_law K A vs H Q E) : t_law K A { nx := fun _ H' => Q .non H', rt := Q } (start ["_law_script", "_law_box", "_law_units_here", "_law_data", "_law_rows", "_law_turn", "_law_kind", "_law_held", "_law_new", "_law_due", "_law_told", "_law_at", "_law_more", "_law_k"] vs) H := by
  obtain ⟨a, ns, rfl, hS, k⟩ := h
  show t_law K A _ [some (.ref a), none, none, none, none, none, none, none, none, none, none, none, none, none] H
  unfold t_law
  have el : ∀ {p : Addr}, (H p = none ∨ p ∈ []) → H p = none := fun z => z.elim id fun z => nomatch z
  have hL : Led K H [] H [] [] := Led.start
  walk_at "gs"
  refine ⟨a, ns, 0, 50, rfl, hS, by omega, by omega, by omega, by omega, fun g H1 ds s1 ng hg => ?_⟩
  have h1 : Led K H [] H1 [(g, .raw (.lst (ds.map V.int)))] [] := hL.new s1 ng hg
  walk_at "gs"
  rename_i b H2 nb h2 z H3 z0 z1 h3
  generalize hz : (8 : Int) + z = w
  obtain ⟨u, rfl⟩ : ∃ u : Nat, w = u := ⟨w.toNat, by omega⟩
  refine ⟨u, congrArg (fun z => [V.int z]) (by omega), by omega, by omega, fun d H4 s4 nd hd => ?_⟩
  have h4 := h3.new (e := .raw (.lst ((wr [freeB u]).map V.int))) s4 nd hd
  have nd0 := el (h3.fr nd)
  have nb0 := el nb
  clear h1 h2 h3 hL
  walk_at "gs"
  rename_i bd H5 nbd h5 rn H6 nrn h6 rp H7 nrp h7
  have h8 := (show Led K H [] H7 ([(rp, .raw (.lst [.ref rn])), (rn, .raw (.lst (rowL (rn, bd, freeB u)))), (bd, .raw (.lst [])), (d, .raw (.lst ((wr [freeB u]).map V.int))), (b, .raw (.lst [.ref g, .int (0 + 1)])), (g, .raw (.lst (ds.map V.int)))] ++ []) [] by rw [List.append_nil]; exact h7).pickT [4, 5, 3, 0, 1, 2]
  have h8 : Led K H [] H7 [(b, .raw (.lst [.ref g, .int (0 + 1)])), (g, .raw (.lst (ds.map V.int))), (d, .raw (.lst ((wr (blk [(rn, bd, freeB u)])).map V.int))), (rp, .raw (.lst (rbV [(rn, bd, freeB u)]))), (rn, .raw (.lst (rowL (rn, bd, freeB u)))), (bd, .raw (.lst []))] [] := h8
  have fr0 : ∀ e ∈ rbE [(rn, bd, freeB u)], H e.1 = none := fun e he => by
    rcases List.mem_cons.mp he with rfl | he
    · exact el nrn
    · cases List.mem_singleton.mp he
      exact el nbd
  clear h4 h5 h6 h7
  walk_at "gs"
  rename_i zt H8 zt0 zt1 h9
  refine lpR (fun t σ H2 => LawM K H a b g d ds (2 + 300 * t) σ H2) ⟨rp, [(rn, bd, freeB u)], _, _, _, _, _, _, _, _, _, _, rfl, ⟨fun x hx => by cases List.mem_singleton.mp hx; exact freeB_ok (by omega), by show u ≤ 100; omega⟩, by show u ≤ 43; omega, by omega, fr0, h9⟩ ?_ ?_
  · clear h8 h9 fr0
    rintro t σ H8 ht ⟨rp, rs, j, y5, y6, y7, y8, y9, y10, y11, y12, y13, rfl, ok, hu, hj, fr, h9⟩
    have ht25 : t < 25 := by omega
    have hll := len_le ok.1
    rw [blk_len] at hll
    have ev : (rbV rs).length = rs.length := by unfold rbV; rw [List.length_map]
    walk_at "gs"
    rename_i kd H9 kd0 kd1 h10
    clear h9
    refine lcR h10 (fun p i H2 => ∃ js : List Nat, (H p = none ∨ p ∈ []) ∧ js.length ≤ i ∧ (∀ x ∈ js, x < rs.length) ∧ Led K H [] H2 ((p, .raw (.lst (js.map fun (i : Nat) => V.int i))) :: ([(b, .raw (.lst [.ref g, .int (j + 1)])), (g, .raw (.lst (ds.map V.int))), (d, .raw (.lst ((wr (blk rs)).map V.int))), (rp, .raw (.lst (rbV rs)))] ++ rbE rs)) [])
      (fun p H2 np h2 => ⟨[], np, Nat.le_refl _, fun x hx => (nomatch hx), h2⟩) ?_ ?_
    · rintro p i H2 hi ⟨js, np, hjl, hjs, h2⟩
      rw [ev] at hi
      have hi2 : i < rs.length := by omega
      have hy : rs[i]? = some rs[i] := List.getElem?_eq_getElem hi2
      generalize rs[i] = y at hy
      have hix : atI (rbV rs) (0 + (i : Nat)) = some (.ref y.1) := by
        refine at_nn (by omega) ?_
        rw [show (0 + (i : Int)).toNat = i by omega]
        unfold rbV
        rw [List.getElem?_map, hy]
        rfl
      have hrow := (rowsAt_of h2 (p := rp) (acc := rs) (by simp) fun e he => by simp [he]).get hy
      walk_at "gs"
      refine h_ixL 4 h2 rfl hix ?_
      walk_at "gs"
      refine h_ixQ (SqL.of hrow.1) rfl ?_
      walk_at "gs"
      refine h_itn (fun c0 => ?_) (fun c0 => ?_)
      · walk_at "gs"
        obtain ⟨acc2, a1, a2, a3⟩ := h_accL (y := .int (0 + (i : Nat))) 0 h2 rfl np (by rw [List.length_map, sizeLine_eq]; omega)
        refine ⟨acc2, a1, a2, js ++ [i], np, by rw [List.length_append, List.length_singleton]; omega, fun x hx => ?_, ?_⟩
        · rcases List.mem_append.mp hx with hx | hx
          · exact hjs x hx
          · cases List.mem_singleton.mp hx
            exact hi2
        · rw [List.map_append]
          rw [show ((0 : Int) + (i : Nat)) = (i : Nat) by omega] at a3 ⊢
          exact a3
      · exact ⟨js, np, by omega, hjs, h2⟩
    · rintro hp H10 ⟨js, nhp, hjl, hjs, h11⟩
      rw [ev] at hjl
      clear h10
      walk_at "gs"
      refine h_cut (fun σ H2 => LawM K H a b g d ds (2 + 300 * ((t + 1 : Nat) : Int)) σ H2) ?_ ?_
      · walk_at "gs"
        refine h_br (fun c => ?_) (fun c => ?_)
        · have h12 := h11.tlL
          clear h11
          walk_at "gs"
          rename_i n1 H11 n10 n11 h13 n2 H12 n20 n21 h14 l4 H13 nl4 h15 z4 H14 z40 z41 h16
          refine h_ixL 0 h16 rfl (at_ints (ns := [1, 2, 128, 129]) z40 z41) ?_
          have hv : 0 ≤ ([1, 2, 128, 129] : List Int).getD z4.toNat 0 ∧ ([1, 2, 128, 129] : List Int).getD z4.toNat 0 < 256 := by
            rcases (show z4 = 0 ∨ z4 = 1 ∨ z4 = 2 ∨ z4 = 3 by omega) with rfl | rfl | rfl | rfl <;> decide
          generalize ([1, 2, 128, 129] : List Int).getD z4.toNat 0 = vv at hv ⊢
          have h17 := h16.tlL
          clear h12 h13 h14 h15 h16
          walk_at "gs"
          rename_i n4 H15 n40 n41 h18 nl H16 nnl h19
          obtain ⟨m, em⟩ : ∃ m : Nat, 1 + n1 = m := ⟨(1 + n1).toNat, by omega⟩
          obtain ⟨k2, ek⟩ : ∃ k2 : Nat, 1 + n2 = k2 := ⟨(1 + n2).toNat, by omega⟩
          obtain ⟨v, rfl⟩ : ∃ v : Nat, vv = v := ⟨vv.toNat, by omega⟩
          obtain ⟨n, en⟩ : ∃ n : Nat, 1 + n4 = n := ⟨(1 + n4).toNat, by omega⟩
          rw [em, ek, en] at h19 ⊢
          clear h17 h18
          have g7 : Led K H [] H16 ([(nl, .raw (.lst [.int m, .int k2, .int v, .int n])), (b, .raw (.lst [.ref g, .int (j + 1 + 1 + 1 + 1 + 1)])), (g, .raw (.lst (ds.map V.int))), (d, .raw (.lst ((wr (blk rs)).map V.int)))] ++ ((rp, .raw (.lst (rbV rs))) :: rbE rs)) [] := h19
          refine ⟨rp, rs, m, k2, v, n, rfl, Led.enter g7, ok, by omega, by omega, fun hN H17 s17 => ?_, fun bs' j0 hS2 q p rs' H17 hb nq np hk g8 => ?_⟩
          · have g8 := g7.same s17
            clear g7 h19
            walk_at "gs"
            refine ⟨d, blk rs, m, k2, v, n, rfl, g8.raw 3 rfl, ok, by omega, by omega, by omega, by omega, by omega, by omega, by omega, fun _ H18 kb hd => ?_, fun bs' j' hj' => by rw [hN] at hj'; exact nomatch hj'⟩
            have g9 : Led K H [] H18 ([(nl, .raw (.lst [.int m, .int k2, .int v, .int n])), (b, .raw (.lst [.ref g, .int (j + 1 + 1 + 1 + 1 + 1)])), (g, .raw (.lst (ds.map V.int))), (d, .raw (.lst ((wr (blk rs)).map V.int)))] ++ ((rp, .raw (.lst (rbV rs))) :: rbE rs)) [] := g8.wr (e' := .raw (.lst ((wr (blk rs)).map V.int))) 3 rfl kb (g8.raw 3 rfl) rfl hd (.inl nd0)
            clear g8
            walk_at "gs"
            refine h_brSn (fun c2 => absurd rfl c2) fun _ => ?_
            walk_at "gs"
            exact ⟨rp, rs, j + 1 + 1 + 1 + 1 + 1, _, _, _, _, _, _, _, _, _, rfl, ok, hu, by omega, fr, g9.tlL⟩
          · subst hb
            have g9 := g7.mine g8 (keys_mine (F := [(q, .raw (.lst [.ref p, .int j0])), (p, .raw (.lst (rbV rs')))]) hk fun e he => by
              rcases List.mem_cons.mp he with rfl | he
              · exact nq
              · cases List.mem_singleton.mp he
                exact np)
            have fr1 := fr_keys hk fr fun p hp => el (h19.fr hp)
            obtain ⟨ok', uu', hj0⟩ := takeR_ok ok hS2 (by omega) (by omega) (by omega) (by omega) (by omega) (by omega)
            clear g7 g8 h19
            walk_at "gs"
            refine ⟨d, blk rs, m, k2, v, n, rfl, g9.raw 3 rfl, ok, by omega, by omega, by omega, by omega, by omega, by omega, by omega, fun hN => (by rw [hS2] at hN; exact nomatch hN), fun bs2 j2 hj2 H18 kb hd => ?_⟩
            rw [hS2] at hj2
            cases hj2
            have g10 : Led K H [] H18 ([(nl, .raw (.lst [.int m, .int k2, .int v, .int n])), (b, .raw (.lst [.ref g, .int (j + 1 + 1 + 1 + 1 + 1)])), (g, .raw (.lst (ds.map V.int))), (d, .raw (.lst ((wr (blk rs')).map V.int))), (q, .raw (.lst [.ref p, .int j0])), (p, .raw (.lst (rbV rs')))] ++ rbE rs') [] := g9.wr (e' := .raw (.lst ((wr (blk rs')).map V.int))) 3 rfl kb (g9.raw 3 rfl) rfl hd (.inl nd0)
            clear g9
            obtain ⟨x, hx, ex⟩ := rb_get hj0
            have hl' := len_le ok'.1
            rw [blk_len] at hl'
            have lo : (offs (blk rs')).length = rs'.length := by unfold offs; rw [List.length_map, List.length_range, blk_len]
            have hj1 : j0 < rs'.length := (List.getElem?_eq_some_iff.mp hx).1
            have xk : x.2.2.k ≠ 0 := by rw [ex]; show k2 ≠ 0; omega
            have xb : x.2.2.body.length ≤ 40 := by rw [ex]; show (List.replicate (8 * m - 8) (0 : Int)).length ≤ 40; rw [List.length_replicate]; omega
            have fx : H x.2.1 = none := fr1 (x.2.1, .raw (.lst (x.2.2.body.map V.int))) (rbE_mem (List.mem_of_getElem? hx) _ (by unfold rbE; simp))
            walk_at "gs"
            refine ⟨p, rs', rfl, rowsAt_of g10 (by simp) (fun e he => by simp [he]), by omega, fun po H19 s19 npo hpo => ?_⟩
            have g11 := g10.new (e := .raw (.lst ((offs (blk rs')).map V.int))) s19 npo hpo
            clear g10
            walk_at "gs"
            refine h_ixL 5 g11 rfl (at_nn (by decide) rfl) ?_
            walk_at "gs"
            refine h_ixI 0 g11 rfl (by omega) (by omega) ?_
            rw [List.getD_eq_getElem?_getD, Int.toNat_natCast, offs_at hj0]
            walk_at "gs"
            have ho8 : offn (blk rs') j0 ≤ 800 := by
              have := unt_take (blk rs') j0
              unfold offn
              omega
            refine h_sameI rfl (by omega) ?_
            walk_at "gs"
            refine h_ixL 5 g11 rfl (at_nn (by decide) rfl) ?_
            walk_at "gs"
            have g12 := (show Led K H [] H19 ([(po, .raw (.lst ((offs (blk rs')).map V.int))), (nl, .raw (.lst [.int m, .int k2, .int v, .int n])), (b, .raw (.lst [.ref g, .int (j + 1 + 1 + 1 + 1 + 1)])), (g, .raw (.lst (ds.map V.int))), (d, .raw (.lst ((wr (blk rs')).map V.int))), (q, .raw (.lst [.ref p, .int j0])), (p, .raw (.lst (rbV rs')))] ++ rbE rs') [] from g11).pickT [2, 3, 4, 6]
            refine ⟨b, g, d, p, ds, j + 1 + 1 + 1 + 1 + 1, rs', j0, x, rfl, Led.enter (X := []) g12, ok', hx, xk, by omega, by omega, fun rs2 i2 H20 ok2 u2 i20 i21 ek c2 => ?_⟩
            refine ⟨p, rs2, i2, _, _, _, _, _, _, _, _, _, by rw [u2, uu'], ok2, by rw [u2, uu']; omega, by omega, fr_same ek fr1, g12.trans c2 fun y hy => .inl ?_⟩
            simp only [List.mem_cons, List.not_mem_nil, or_false] at hy
            rcases hy with rfl | rfl | rfl
            · exact nb0
            · exact nd0
            · exact fx
        · walk_at "gs"
          refine h_andL 0 h11 rfl (fun c1 c2 => ?_) ?_
          · rw [List.length_map] at c2
            walk_at "gs"
            rename_i z H11 z00 z01 h12
            clear h11
            rw [List.length_map]
            have hm0 : 0 ≤ z % (js.length : Int) := Int.emod_nonneg _ (by omega)
            have hm1 : z % (js.length : Int) < js.length := Int.emod_lt_of_pos _ (by omega)
            generalize z % (js.length : Int) = zz at hm0 hm1 ⊢
            obtain ⟨o, rfl⟩ : ∃ o : Nat, zz = o := ⟨zz.toNat, by omega⟩
            have ho2 : o < js.length := by omega
            have ho : js[o]? = some js[o] := List.getElem?_eq_getElem ho2
            have hol := hjs js[o] (List.getElem_mem _)
            generalize js[o] = i at ho hol
            refine h_ixL (v := .int (i : Nat)) 0 h12 rfl (at_nn (by omega) (by rw [Int.toNat_natCast, List.getElem?_map, ho]; rfl)) ?_
            have h13 := h12.tlL
            clear h12
            have hx : rs[i]? = some rs[i] := List.getElem?_eq_getElem hol
            generalize rs[i] = x at hx
            have hb := blk_get hx
            have okx := ok.get hb
            have lo : (offs (blk rs)).length = rs.length := by unfold offs; rw [List.length_map, List.length_range, blk_len]
            walk_at "gs"
            refine ⟨rp, rs, rfl, rowsAt_of h13 (by simp) (fun e he => by simp [he]), by omega, fun po H12 s12 npo hpo => ?_⟩
            have h14 := h13.new (e := .raw (.lst ((offs (blk rs)).map V.int))) s12 npo hpo
            clear h13
            walk_at "gs"
            refine h_ixI 0 h14 rfl (by omega) (by omega) ?_
            rw [List.getD_eq_getElem?_getD, Int.toNat_natCast, offs_at hb]
            have h15 := h14.tlL
            clear h14
            walk_at "gs"
            refine ⟨d, blk rs, i, x.2.2, rfl, h15.raw 2 rfl, ok, hb, fun H13 kb hd => ?_⟩
            have h16 : Led K H [] H13 ([(b, .raw (.lst [.ref g, .int (j + 1 + 1)])), (g, .raw (.lst (ds.map V.int))), (d, .raw (.lst ((wr (joined ((blk rs).set i (freeB x.2.2.u)))).map V.int))), (rp, .raw (.lst (rbV rs)))] ++ rbE rs) [] := h15.wr (e' := .raw (.lst ((wr (joined ((blk rs).set i (freeB x.2.2.u)))).map V.int))) 2 rfl kb (h15.raw 2 rfl) rfl hd (.inl nd0)
            clear h15
            have ct : cutI (rbV rs) none (some (i : Int)) = rbV (rs.take i) := by rw [cutI_pre _ (by omega), Int.toNat_natCast, rbV_take]
            have cd : cutI (rbV rs) (some ((i : Int) + 1)) none = rbV (rs.drop (i + 1)) := by rw [cutI_suf _ (by omega), show ((i : Int) + 1).toNat = i + 1 by omega, rbV_drop]
            have lt : (rbV (rs.take i)).length = i := by unfold rbV; rw [List.length_map, List.length_take]; omega
            have ld : (rbV (rs.drop (i + 1))).length = rs.length - (i + 1) := by unfold rbV; rw [List.length_map, List.length_drop]
            have hix : atI (rbV rs) (i : Nat) = some (.ref x.1) := by
              refine at_nn (by omega) ?_
              rw [Int.toNat_natCast]
              unfold rbV
              rw [List.getElem?_map, hx]
              rfl
            walk_at "gs"
            refine h_slG 3 h16 rfl fun w1 H14 nw1 h17 => ?_
            rw [ct] at h17
            have hrow := (rowsAt_of h17 (p := rp) (acc := rs) (by simp) fun e he => by simp [he]).get hx
            clear h16
            walk_at "gs"
            refine h_ixL 4 h17 rfl hix ?_
            walk_at "gs"
            refine h_ixQ (SqL.of hrow.1) rfl ?_
            walk_at "gs"
            rename_i bd H15 nbd h18 rn H16 nrn h19 w2 H17 nw2 h20
            clear hrow h17 h18 h19
            refine h_catG 3 0 h20 rfl rfl (by rw [lt, sizeLine_eq]; simp only [List.length_cons, List.length_nil]; omega) fun w3 H18 nw3 h21 => ?_
            walk_at "gs"
            refine h_slG 8 h21 rfl fun w4 H19 nw4 h22 => ?_
            rw [cd] at h22
            walk_at "gs"
            refine h_catG 1 0 h22 rfl rfl (by rw [List.length_append, lt, ld, sizeLine_eq]; simp only [List.length_cons, List.length_nil]; omega) fun w5 H20 nw5 h23 => ?_
            clear h20 h21 h22
            walk_at "gs"
            have sw := set_wr ok hb
            have e1 : blk (rs.take i ++ ([(rn, bd, freeB x.2.2.u)] ++ rs.drop (i + 1))) = (blk rs).set i (freeB x.2.2.u) := blk_set hx
            have eV : rbV (rs.take i) ++ [.ref rn] ++ rbV (rs.drop (i + 1)) = rbV (rs.take i ++ ([(rn, bd, freeB x.2.2.u)] ++ rs.drop (i + 1))) := by
              rw [rbV_app, rbV_app, List.append_assoc]
              rfl
            rw [eV] at h23
            have h24 := (show Led K H [] H20 ([(w5, .raw (.lst (rbV (rs.take i ++ ([(rn, bd, freeB x.2.2.u)] ++ rs.drop (i + 1)))))), (w4, .raw (.lst (rbV (rs.drop (i + 1))))), (w3, .raw (.lst (rbV (rs.take i) ++ [.ref rn]))), (w2, .raw (.lst [.ref rn])), (rn, .raw (.lst (rowL (rn, bd, freeB x.2.2.u)))), (bd, .raw (.lst [])), (w1, .raw (.lst (rbV (rs.take i)))), (b, .raw (.lst [.ref g, .int (j + 1 + 1)])), (g, .raw (.lst (ds.map V.int))), (d, .raw (.lst ((wr (joined ((blk rs).set i (freeB x.2.2.u)))).map V.int))), (rp, .raw (.lst (rbV rs)))] ++ rbE rs) [] from h23).pickT [7, 8, 9, 0, 4, 5]
            have es := congrArg rbE (rb_split hx)
            rw [rbE_app, rbE_app] at es
            have h25 := Led.ins (Y := [(b, .raw (.lst [.ref g, .int (j + 1 + 1)])), (g, .raw (.lst (ds.map V.int))), (d, .raw (.lst ((wr (joined ((blk rs).set i (freeB x.2.2.u)))).map V.int))), (w5, .raw (.lst (rbV (rs.take i ++ ([(rn, bd, freeB x.2.2.u)] ++ rs.drop (i + 1))))))]) (N := rbE [(rn, bd, freeB x.2.2.u)]) (A := rbE (rs.take i)) (B := rbE [x]) (C := rbE (rs.drop (i + 1))) (K := K) (H0 := H) (H := H20) (S := []) (I := []) (by
              rw [← es]
              exact h24)
            have fr1 := fr_mid (y := (rn, bd, freeB x.2.2.u)) hx fr (el nrn) (el nbd)
            rw [← rbE_app, ← rbE_app, ← e1] at h25
            have ok1 : BOk (blk (rs.take i ++ ([(rn, bd, freeB x.2.2.u)] ++ rs.drop (i + 1)))) := by rw [e1]; exact sw.2.1
            have un1 : unt (blk (rs.take i ++ ([(rn, bd, freeB x.2.2.u)] ++ rs.drop (i + 1)))) = unt (blk rs) := by rw [e1]; exact sw.2.2
            clear h23 h24
            generalize hrs1 : rs.take i ++ ([(rn, bd, freeB x.2.2.u)] ++ rs.drop (i + 1)) = rs1 at h25 fr1 ok1 un1
            have h26 : Led K H [] H20 ([(b, .raw (.lst [.ref g, .int (j + 1 + 1)])), (g, .raw (.lst (ds.map V.int))), (d, .raw (.lst ((wr (joined (blk rs1))).map V.int)))] ++ ((w5, .raw (.lst (rbV rs1))) :: rbE rs1)) [] := h25
            refine ⟨w5, rs1, rfl, Led.enter h26, ok1, fun p rs' H21 hb' np hk c3 => ?_⟩
            have g9 := h26.mine c3 (keys_mine (F := [(p, .raw (.lst (rbV rs')))]) hk fun e he => by
              cases List.mem_singleton.mp he
              exact np)
            rw [← hb'] at g9
            exact ⟨p, rs', j + 1 + 1, _, _, _, _, _, _, _, _, _, by rw [hb', joined_unt ok1, un1], by rw [hb']; exact joined_ok ok1, by rw [hb', joined_unt ok1, un1]; exact hu, by omega, fr_keys hk fr1 fun p hp => el (h26.fr hp), g9⟩
          · have h12 := h11.tlL
            clear h11
            walk_at "gs"
            refine h_br (fun c1 => ?_) (fun c1 => ?_)
            · walk_at "gs"
              refine h_pushtog 2 h12 rfl ok (.inl nd0) fun H11 h13 => ?_
              have h14 : Led K H [] H11 ([(b, .raw (.lst [.ref g, .int (j + 1)])), (g, .raw (.lst (ds.map V.int))), (d, .raw (.lst ((wr (together (blk rs))).map V.int)))] ++ ((rp, .raw (.lst (rbV rs))) :: rbE rs)) [] := h13
              clear h12 h13
              walk_at "gs"
              refine ⟨rp, rs, rfl, Led.enter h14, ok, fun p rs' H12 hb' np hk c3 => ?_⟩
              have g9 := h14.mine c3 (keys_mine (F := [(p, .raw (.lst (rbV rs')))]) hk fun e he => by
                cases List.mem_singleton.mp he
                exact np)
              rw [← hb'] at g9
              have tk := together_ok ok
              exact ⟨p, rs', j + 1, _, _, _, _, _, _, _, _, _, by rw [hb', tk.2], by rw [hb']; exact tk.1, by rw [hb', tk.2]; exact hu, by omega, fr_keys hk fr fun p hp => el (h14.fr hp), g9⟩
            · walk_at "gs"
              refine h_br (fun c2 => ?_) (fun c2 => ?_)
              · walk_at "gs"
                rename_i z H11 z00 z01 h13
                clear h12
                generalize hz : (1 : Int) + z = w
                obtain ⟨m, rfl⟩ : ∃ m : Nat, w = m := ⟨w.toNat, by omega⟩
                refine ⟨d, blk rs, m, congrArg (fun z => [V.ref d, V.int z]) (by omega), h13.raw 2 rfl, ok, by omega, by omega, fun H12 kb hd => ?_⟩
                have h14 : Led K H [] H12 ([(b, .raw (.lst [.ref g, .int (j + 1 + 1)])), (g, .raw (.lst (ds.map V.int))), (d, .raw (.lst ((wr (joined (blk rs ++ [freeB m]))).map V.int))), (rp, .raw (.lst (rbV rs)))] ++ rbE rs) [] := h13.wr (e' := .raw (.lst ((wr (joined (blk rs ++ [freeB m]))).map V.int))) 2 rfl kb (h13.raw 2 rfl) rfl hd (.inl nd0)
                clear h13
                walk_at "gs"
                rename_i bd H13 nbd h15 rn H14 nrn h16 w2 H15 nw2 h17
                clear h14 h15 h16
                refine h_catG 6 0 h17 rfl rfl (by rw [ev, sizeLine_eq]; simp only [List.length_cons, List.length_nil]; omega) fun w3 H16 nw3 h18 => ?_
                clear h17
                walk_at "gs"
                have eV : rbV rs ++ [.ref rn] = rbV (rs ++ [(rn, bd, freeB m)]) := by
                  rw [rbV_app]
                  rfl
                have e1 : blk (rs ++ [(rn, bd, freeB m)]) = blk rs ++ [freeB m] := by
                  rw [blk_app]
                  rfl
                rw [eV] at h18
                have h19 := (show Led K H [] H16 ([(w3, .raw (.lst (rbV (rs ++ [(rn, bd, freeB m)])))), (w2, .raw (.lst [.ref rn])), (rn, .raw (.lst (rowL (rn, bd, freeB m)))), (bd, .raw (.lst [])), (b, .raw (.lst [.ref g, .int (j + 1 + 1)])), (g, .raw (.lst (ds.map V.int))), (d, .raw (.lst ((wr (joined (blk rs ++ [freeB m]))).map V.int))), (rp, .raw (.lst (rbV rs)))] ++ rbE rs) [] from h18).pickT [4, 5, 6, 0, 2, 3]
                have h20 : Led K H [] H16 ([(b, .raw (.lst [.ref g, .int (j + 1 + 1)])), (g, .raw (.lst (ds.map V.int))), (d, .raw (.lst ((wr (joined (blk rs ++ [freeB m]))).map V.int))), (w3, .raw (.lst (rbV (rs ++ [(rn, bd, freeB m)]))))] ++ (rbE rs ++ rbE [(rn, bd, freeB m)])) [] 
                  := (show Led K H [] H16 ([(b, .raw (.lst [.ref g, .int (j + 1 + 1)])), (g, .raw (.lst (ds.map V.int))), (d, .raw (.lst ((wr (joined (blk rs ++ [freeB m]))).map V.int))), (w3, .raw (.lst (rbV (rs ++ [(rn, bd, freeB m)]))))] ++ (rbE [(rn, bd, freeB m)] ++ rbE rs)) [] from h19).perm (List.Perm.append_left [(b, .raw (.lst [.ref g, .int (j + 1 + 1)])), (g, .raw (.lst (ds.map V.int))), (d, .raw (.lst ((wr (joined (blk rs ++ [freeB m]))).map V.int))), (w3, .raw (.lst (rbV (rs ++ [(rn, bd, freeB m)]))))] (List.perm_append_comm (l₁ := rbE [(rn, bd, freeB m)]) (l₂ := rbE rs)))
                have fr1 := fr_app (y := (rn, bd, freeB m)) fr (el nrn) (el nbd)
                rw [← rbE_app, ← e1] at h20
                have un1 : unt (blk (rs ++ [(rn, bd, freeB m)])) = unt (blk rs) + m := by rw [e1, unt_app, unt_one]; rfl
                have ok1 : BOk (blk (rs ++ [(rn, bd, freeB m)])) := ⟨fun y hy => by
                  rw [e1] at hy
                  rcases List.mem_append.mp hy with hy | hy
                  · exact ok.1 y hy
                  · cases List.mem_singleton.mp hy
                    exact freeB_ok (by omega), by rw [un1]; omega⟩
                clear h18 h19
                generalize hrs1 : rs ++ [(rn, bd, freeB m)] = rs1 at h20 fr1 ok1 un1
                have h21 : Led K H [] H16 ([(b, .raw (.lst [.ref g, .int (j + 1 + 1)])), (g, .raw (.lst (ds.map V.int))), (d, .raw (.lst ((wr (joined (blk rs1))).map V.int)))] ++ ((w3, .raw (.lst (rbV rs1))) :: rbE rs1)) [] := h20
                refine ⟨w3, rs1, rfl, Led.enter h21, ok1, fun p rs' H17 hb' np hk c3 => ?_⟩
                have g9 := h21.mine c3 (keys_mine (F := [(p, .raw (.lst (rbV rs')))]) hk fun e he => by
                  cases List.mem_singleton.mp he
                  exact np)
                rw [← hb'] at g9
                exact ⟨p, rs', j + 1 + 1, _, _, _, _, _, _, _, _, _, by rw [hb', joined_unt ok1, un1, Int.natCast_add], by rw [hb']; exact joined_ok ok1, by rw [hb', joined_unt ok1, un1]; omega, by omega, fr_keys hk fr1 fun p hp => el (h21.fr hp), g9⟩
              · walk_at "gs"
                exact ⟨rp, rs, j + 1, _, _, _, _, _, _, _, _, _, rfl, ok, hu, by omega, fr, h12⟩
      · rintro σ H2 ⟨rp, rs, j, y5, y6, y7, y8, y9, y10, y11, y12, y13, rfl, ok, hu, hj, fr, h2⟩
        walk_at "gs"
        refine ⟨d, rp, rs, rfl, Led.enter (X := [(b, .raw (.lst [.ref g, .int j])), (g, .raw (.lst (ds.map V.int)))]) h2, ok, fun H3 s3 => ?_⟩
        walk_at "gs"
        exact ⟨rp, rs, j, _, _, _, _, _, _, _, _, _, rfl, ok, hu, hj, fr, h2.same s3⟩
  · rintro σ H8 ⟨rp, rs, j, y5, y6, y7, y8, y9, y10, y11, y12, y13, rfl, ok, hu, hj, fr, h9⟩
    walk_at "gs"
    exact k H8

def topS (i : Nat) : Stmt := PySem.Challenge.pw_recstore_k09_blocks_exact.main.body.getD i (.Pass ⟨0, 0, 0, 0⟩)
abbrev s_word_number : Stmt := topS 4
abbrev nm_word_number : List Str := ["data", "offset", "size", "big", "number", "at", "byte"]
theorem sc_word_number : FnScope nm_word_number ["data", "offset", "size", "big"] (defScope s_word_number) := ⟨rfl, rfl, rfl, by decide +kernel, rfl, by decide +kernel, by decide +kernel⟩
abbrev s_put_word_number : Stmt := topS 5
abbrev nm_put_word_number : List Str := ["data", "offset", "size", "big", "number", "at"]
theorem sc_put_word_number : FnScope nm_put_word_number ["data", "offset", "size", "big", "number"] (defScope s_put_word_number) := ⟨rfl, rfl, rfl, by decide +kernel, rfl, by decide +kernel, by decide +kernel⟩
abbrev s_read_word : Stmt := topS 6
abbrev nm_read_word : List Str := ["data", "offset", "size"]
theorem sc_read_word : FnScope nm_read_word ["data", "offset", "size"] (defScope s_read_word) := ⟨rfl, rfl, rfl, by decide +kernel, rfl, by decide +kernel, by decide +kernel⟩
abbrev s_write_word : Stmt := topS 7
abbrev nm_write_word : List Str := ["data", "offset", "size", "value"]
theorem sc_write_word : FnScope nm_write_word ["data", "offset", "size", "value"] (defScope s_write_word) := ⟨rfl, rfl, rfl, by decide +kernel, rfl, by decide +kernel, by decide +kernel⟩
abbrev s_empty : Stmt := topS 11
abbrev nm_empty : List Str := ["size", "data"]
theorem sc_empty : FnScope nm_empty ["size"] (defScope s_empty) := ⟨rfl, rfl, rfl, by decide +kernel, rfl, by decide +kernel, by decide +kernel⟩
abbrev s_offsets : Stmt := topS 12
abbrev nm_offsets : List Str := ["data", "found", "offset"]
theorem sc_offsets : FnScope nm_offsets ["data"] (defScope s_offsets) := ⟨rfl, rfl, rfl, by decide +kernel, rfl, by decide +kernel, by decide +kernel⟩
abbrev s_block_at : Stmt := topS 13
abbrev nm_block_at : List Str := ["data", "offset"]
theorem sc_block_at : FnScope nm_block_at ["data", "offset"] (defScope s_block_at) := ⟨rfl, rfl, rfl, by decide +kernel, rfl, by decide +kernel, by decide +kernel⟩
abbrev s_blocks : Stmt := topS 14
abbrev nm_blocks : List Str := ["data", "offset"]
theorem sc_blocks : FnScope nm_blocks ["data"] (defScope s_blocks) := ⟨rfl, rfl, rfl, by decide +kernel, rfl, by decide +kernel, by decide +kernel⟩
abbrev s_is_free : Stmt := topS 15
abbrev nm_is_free : List Str := ["data", "offset"]
theorem sc_is_free : FnScope nm_is_free ["data", "offset"] (defScope s_is_free) := ⟨rfl, rfl, rfl, by decide +kernel, rfl, by decide +kernel, by decide +kernel⟩
abbrev s_used : Stmt := topS 16
abbrev nm_used : List Str := ["data", "offset"]
theorem sc_used : FnScope nm_used ["data"] (defScope s_used) := ⟨rfl, rfl, rfl, by decide +kernel, rfl, by decide +kernel, by decide +kernel⟩
abbrev s_put_free : Stmt := topS 17
abbrev nm_put_free : List Str := ["data", "offset", "units", "at"]
theorem sc_put_free : FnScope nm_put_free ["data", "offset", "units"] (defScope s_put_free) := ⟨rfl, rfl, rfl, by decide +kernel, rfl, by decide +kernel, by decide +kernel⟩
abbrev s_join_free : Stmt := topS 18
abbrev nm_join_free : List Str := ["data", "last", "offset", "units"]
theorem sc_join_free : FnScope nm_join_free ["data"] (defScope s_join_free) := ⟨rfl, rfl, rfl, by decide +kernel, rfl, by decide +kernel, by decide +kernel⟩
abbrev s_push_together : Stmt := topS 19
abbrev nm_push_together : List Str := ["data", "kept", "offset", "left"]
theorem sc_push_together : FnScope nm_push_together ["data"] (defScope s_push_together) := ⟨rfl, rfl, rfl, by decide +kernel, rfl, by decide +kernel, by decide +kernel⟩
abbrev s_free_place : Stmt := topS 20
abbrev nm_free_place : List Str := ["data", "units", "offset"]
theorem sc_free_place : FnScope nm_free_place ["data", "units"] (defScope s_free_place) := ⟨rfl, rfl, rfl, by decide +kernel, rfl, by decide +kernel, by decide +kernel⟩
abbrev s_take : Stmt := topS 21
abbrev nm_take : List Str := ["data", "units", "kind", "version", "number", "offset", "left"]
theorem sc_take : FnScope nm_take ["data", "units", "kind", "version", "number"] (defScope s_take) := ⟨rfl, rfl, rfl, by decide +kernel, rfl, by decide +kernel, by decide +kernel⟩
abbrev s_give_back : Stmt := topS 22
abbrev nm_give_back : List Str := ["data", "offset"]
theorem sc_give_back : FnScope nm_give_back ["data", "offset"] (defScope s_give_back) := ⟨rfl, rfl, rfl, by decide +kernel, rfl, by decide +kernel, by decide +kernel⟩
abbrev s_grow : Stmt := topS 23
abbrev nm_grow : List Str := ["data", "size", "old"]
theorem sc_grow : FnScope nm_grow ["data", "size"] (defScope s_grow) := ⟨rfl, rfl, rfl, by decide +kernel, rfl, by decide +kernel, by decide +kernel⟩
abbrev s_find_block : Stmt := topS 24
abbrev nm_find_block : List Str := ["data", "number", "version", "offset", "mark"]
theorem sc_find_block : FnScope nm_find_block ["data", "number", "version"] (defScope s_find_block) := ⟨rfl, rfl, rfl, by decide +kernel, rfl, by decide +kernel, by decide +kernel⟩
abbrev s__law_cell : Stmt := topS 27
abbrev nm__law_cell : List Str := ["_law_script", "_law_k"]
theorem sc__law_cell : FnScope nm__law_cell ["_law_script", "_law_k"] (defScope s__law_cell) := ⟨rfl, rfl, rfl, by decide +kernel, rfl, by decide +kernel, by decide +kernel⟩
abbrev s__law_list_is : Stmt := topS 28
abbrev nm__law_list_is : List Str := ["_law_actual", "_law_due"]
theorem sc__law_list_is : FnScope nm__law_list_is ["_law_actual", "_law_due"] (defScope s__law_list_is) := ⟨rfl, rfl, rfl, by decide +kernel, rfl, by decide +kernel, by decide +kernel⟩
abbrev s__law_same : Stmt := topS 29
abbrev nm__law_same : List Str := ["_law_actual", "_law_due"]
theorem sc__law_same : FnScope nm__law_same ["_law_actual", "_law_due"] (defScope s__law_same) := ⟨rfl, rfl, rfl, by decide +kernel, rfl, by decide +kernel, by decide +kernel⟩
abbrev s__law_digits : Stmt := topS 30
abbrev nm__law_digits : List Str := ["_law_script", "_law_first", "_law_last", "_law_digits_here", "_law_k", "_law_cell_here", "_law_turn", "_law_seed"]
theorem sc__law_digits : FnScope nm__law_digits ["_law_script", "_law_first", "_law_last"] (defScope s__law_digits) := ⟨rfl, rfl, rfl, by decide +kernel, rfl, by decide +kernel, by decide +kernel⟩
abbrev s__law_draw : Stmt := topS 31
abbrev nm__law_draw : List Str := ["_law_box", "_law_many", "_law_at"]
theorem sc__law_draw : FnScope nm__law_draw ["_law_box", "_law_many"] (defScope s__law_draw) := ⟨rfl, rfl, rfl, by decide +kernel, rfl, by decide +kernel, by decide +kernel⟩
abbrev s__law_units : Stmt := topS 32
abbrev nm__law_units : List Str := ["_law_rows", "_law_row"]
theorem sc__law_units : FnScope nm__law_units ["_law_rows"] (defScope s__law_units) := ⟨rfl, rfl, rfl, by decide +kernel, rfl, by decide +kernel, by decide +kernel⟩
abbrev s__law_joined : Stmt := topS 33
abbrev nm__law_joined : List Str := ["_law_rows", "_law_found", "_law_row"]
theorem sc__law_joined : FnScope nm__law_joined ["_law_rows"] (defScope s__law_joined) := ⟨rfl, rfl, rfl, by decide +kernel, rfl, by decide +kernel, by decide +kernel⟩
abbrev s__law_together : Stmt := topS 34
abbrev nm__law_together : List Str := ["_law_rows", "_law_units_here", "_law_kept", "_law_left", "_law_row"]
theorem sc__law_together : FnScope nm__law_together ["_law_rows", "_law_units_here"] (defScope s__law_together) := ⟨rfl, rfl, rfl, by decide +kernel, rfl, by decide +kernel, by decide +kernel⟩
abbrev s__law_taken : Stmt := topS 35
abbrev nm__law_taken : List Str := ["_law_rows", "_law_units_here", "_law_many", "_law_kind", "_law_version", "_law_number", "_law_places", "_law_at", "_law_new", "_law_rest", "_law_tail", "_law_row", "_law_k"]
theorem sc__law_taken : FnScope nm__law_taken ["_law_rows", "_law_units_here", "_law_many", "_law_kind", "_law_version", "_law_number"] (defScope s__law_taken) := ⟨rfl, rfl, rfl, by decide +kernel, rfl, by decide +kernel, by decide +kernel⟩
abbrev s__law_written : Stmt := topS 36
abbrev nm__law_written : List Str := ["_law_rows", "_law_found", "_law_units_here", "_law_kind", "_law_version", "_law_number", "_law_body_here", "_law_head", "_law_k"]
theorem sc__law_written : FnScope nm__law_written ["_law_rows"] (defScope s__law_written) := ⟨rfl, rfl, rfl, by decide +kernel, rfl, by decide +kernel, by decide +kernel⟩
abbrev s__law_take : Stmt := topS 37
abbrev nm__law_take : List Str := ["_law_data", "_law_many", "_law_kind", "_law_version", "_law_number", "e"]
theorem sc__law_take : FnScope nm__law_take ["_law_data", "_law_many", "_law_kind", "_law_version", "_law_number"] (defScope s__law_take) := ⟨rfl, rfl, rfl, by decide +kernel, rfl, by decide +kernel, by decide +kernel⟩
abbrev s__law_offsets : Stmt := topS 38
abbrev nm__law_offsets : List Str := ["_law_rows", "_law_found", "_law_at", "_law_row"]
theorem sc__law_offsets : FnScope nm__law_offsets ["_law_rows"] (defScope s__law_offsets) := ⟨rfl, rfl, rfl, by decide +kernel, rfl, by decide +kernel, by decide +kernel⟩
abbrev s__law_body : Stmt := topS 39
abbrev nm__law_body : List Str := ["_law_box", "_law_data", "_law_rows", "_law_at", "_law_k"]
theorem sc__law_body : FnScope nm__law_body ["_law_box", "_law_data", "_law_rows", "_law_at"] (defScope s__law_body) := ⟨rfl, rfl, rfl, by decide +kernel, rfl, by decide +kernel, by decide +kernel⟩
abbrev s__law_right : Stmt := topS 40
abbrev nm__law_right : List Str := ["_law_data", "_law_rows", "_law_offsets_here", "_law_due", "_law_k", "_law_number", "_law_version", "_law_found", "_law_row"]
theorem sc__law_right : FnScope nm__law_right ["_law_data", "_law_rows"] (defScope s__law_right) := ⟨rfl, rfl, rfl, by decide +kernel, rfl, by decide +kernel, by decide +kernel⟩
abbrev s_law : Stmt := topS 41
abbrev nm_law : List Str := ["_law_script", "_law_box", "_law_units_here", "_law_data", "_law_rows", "_law_turn", "_law_kind", "_law_held", "_law_new", "_law_due", "_law_told", "_law_at", "_law_more", "_law_k"]
theorem sc_law : FnScope nm_law ["_law_script"] (defScope s_law) := ⟨rfl, rfl, rfl, by decide +kernel, rfl, by decide +kernel, by decide +kernel⟩
/-- where the defs stand -/
structure Tops where
  a_word_number : Addr
  d_word_number : FuncData
  a_put_word_number : Addr
  d_put_word_number : FuncData
  a_read_word : Addr
  d_read_word : FuncData
  a_write_word : Addr
  d_write_word : FuncData
  a_empty : Addr
  d_empty : FuncData
  a_offsets : Addr
  d_offsets : FuncData
  a_block_at : Addr
  d_block_at : FuncData
  a_blocks : Addr
  d_blocks : FuncData
  a_is_free : Addr
  d_is_free : FuncData
  a_used : Addr
  d_used : FuncData
  a_put_free : Addr
  d_put_free : FuncData
  a_join_free : Addr
  d_join_free : FuncData
  a_push_together : Addr
  d_push_together : FuncData
  a_free_place : Addr
  d_free_place : FuncData
  a_take : Addr
  d_take : FuncData
  a_give_back : Addr
  d_give_back : FuncData
  a_grow : Addr
  d_grow : FuncData
  a_find_block : Addr
  d_find_block : FuncData
  a__law_cell : Addr
  d__law_cell : FuncData
  a__law_list_is : Addr
  d__law_list_is : FuncData
  a__law_same : Addr
  d__law_same : FuncData
  a__law_digits : Addr
  d__law_digits : FuncData
  a__law_draw : Addr
  d__law_draw : FuncData
  a__law_units : Addr
  d__law_units : FuncData
  a__law_joined : Addr
  d__law_joined : FuncData
  a__law_together : Addr
  d__law_together : FuncData
  a__law_taken : Addr
  d__law_taken : FuncData
  a__law_written : Addr
  d__law_written : FuncData
  a__law_take : Addr
  d__law_take : FuncData
  a__law_offsets : Addr
  d__law_offsets : FuncData
  a__law_body : Addr
  d__law_body : FuncData
  a__law_right : Addr
  d__law_right : FuncData
  a_law : Addr
  d_law : FuncData
structure Top (K : PySem.W.Frag) (mg : Str → Option Value) (A : Ad) (W : Tops) : Prop where
  F_word_number : Fun K "word_number" "word_number" s_word_number W.a_word_number W.d_word_number
  b_word_number : Binds K W.d_word_number ["data", "offset", "size", "big"] []
  m_word_number : mg "word_number" = some (.ref W.a_word_number)
  F_put_word_number : Fun K "put_word_number" "put_word_number" s_put_word_number W.a_put_word_number W.d_put_word_number
  b_put_word_number : Binds K W.d_put_word_number ["data", "offset", "size", "big", "number"] []
  m_put_word_number : mg "put_word_number" = some (.ref W.a_put_word_number)
  F_read_word : Fun K "read_word" "read_word" s_read_word W.a_read_word W.d_read_word
  b_read_word : Binds K W.d_read_word ["data", "offset", "size"] []
  m_read_word : mg "read_word" = some (.ref W.a_read_word)
  F_write_word : Fun K "write_word" "write_word" s_write_word W.a_write_word W.d_write_word
  b_write_word : Binds K W.d_write_word ["data", "offset", "size", "value"] []
  m_write_word : mg "write_word" = some (.ref W.a_write_word)
  F_empty : Fun K "empty" "empty" s_empty W.a_empty W.d_empty
  b_empty : Binds K W.d_empty ["size"] []
  m_empty : mg "empty" = some (.ref W.a_empty)
  F_offsets : Fun K "offsets" "offsets" s_offsets W.a_offsets W.d_offsets
  b_offsets : Binds K W.d_offsets ["data"] []
  m_offsets : mg "offsets" = some (.ref W.a_offsets)
  F_block_at : Fun K "block_at" "block_at" s_block_at W.a_block_at W.d_block_at
  b_block_at : Binds K W.d_block_at ["data", "offset"] []
  m_block_at : mg "block_at" = some (.ref W.a_block_at)
  F_blocks : Fun K "blocks" "blocks" s_blocks W.a_blocks W.d_blocks
  b_blocks : Binds K W.d_blocks ["data"] []
  m_blocks : mg "blocks" = some (.ref W.a_blocks)
  F_is_free : Fun K "is_free" "is_free" s_is_free W.a_is_free W.d_is_free
  b_is_free : Binds K W.d_is_free ["data", "offset"] []
  m_is_free : mg "is_free" = some (.ref W.a_is_free)
  F_used : Fun K "used" "used" s_used W.a_used W.d_used
  b_used : Binds K W.d_used ["data"] []
  m_used : mg "used" = some (.ref W.a_used)
  F_put_free : Fun K "put_free" "put_free" s_put_free W.a_put_free W.d_put_free
  b_put_free : Binds K W.d_put_free ["data", "offset", "units"] []
  m_put_free : mg "put_free" = some (.ref W.a_put_free)
  F_join_free : Fun K "join_free" "join_free" s_join_free W.a_join_free W.d_join_free
  b_join_free : Binds K W.d_join_free ["data"] []
  m_join_free : mg "join_free" = some (.ref W.a_join_free)
  F_push_together : Fun K "push_together" "push_together" s_push_together W.a_push_together W.d_push_together
  b_push_together : Binds K W.d_push_together ["data"] []
  m_push_together : mg "push_together" = some (.ref W.a_push_together)
  F_free_place : Fun K "free_place" "free_place" s_free_place W.a_free_place W.d_free_place
  b_free_place : Binds K W.d_free_place ["data", "units"] []
  m_free_place : mg "free_place" = some (.ref W.a_free_place)
  F_take : Fun K "take" "take" s_take W.a_take W.d_take
  b_take : Binds K W.d_take ["data", "units", "kind", "version", "number"] []
  m_take : mg "take" = some (.ref W.a_take)
  F_give_back : Fun K "give_back" "give_back" s_give_back W.a_give_back W.d_give_back
  b_give_back : Binds K W.d_give_back ["data", "offset"] []
  m_give_back : mg "give_back" = some (.ref W.a_give_back)
  F_grow : Fun K "grow" "grow" s_grow W.a_grow W.d_grow
  b_grow : Binds K W.d_grow ["data", "size"] []
  m_grow : mg "grow" = some (.ref W.a_grow)
  F_find_block : Fun K "find_block" "find_block" s_find_block W.a_find_block W.d_find_block
  b_find_block : Binds K W.d_find_block ["data", "number", "version"] []
  m_find_block : mg "find_block" = some (.ref W.a_find_block)
  F__law_cell : Fun K "_law_cell" "_law_cell" s__law_cell W.a__law_cell W.d__law_cell
  b__law_cell : Binds K W.d__law_cell ["_law_script", "_law_k"] []
  m__law_cell : mg "_law_cell" = some (.ref W.a__law_cell)
  F__law_list_is : Fun K "_law_list_is" "_law_list_is" s__law_list_is W.a__law_list_is W.d__law_list_is
  b__law_list_is : Binds K W.d__law_list_is ["_law_actual", "_law_due"] []
  m__law_list_is : mg "_law_list_is" = some (.ref W.a__law_list_is)
  F__law_same : Fun K "_law_same" "_law_same" s__law_same W.a__law_same W.d__law_same
  b__law_same : Binds K W.d__law_same ["_law_actual", "_law_due"] []
  m__law_same : mg "_law_same" = some (.ref W.a__law_same)
  F__law_digits : Fun K "_law_digits" "_law_digits" s__law_digits W.a__law_digits W.d__law_digits
  b__law_digits : Binds K W.d__law_digits ["_law_script", "_law_first", "_law_last"] []
  m__law_digits : mg "_law_digits" = some (.ref W.a__law_digits)
  F__law_draw : Fun K "_law_draw" "_law_draw" s__law_draw W.a__law_draw W.d__law_draw
  b__law_draw : Binds K W.d__law_draw ["_law_box", "_law_many"] []
  m__law_draw : mg "_law_draw" = some (.ref W.a__law_draw)
  F__law_units : Fun K "_law_units" "_law_units" s__law_units W.a__law_units W.d__law_units
  b__law_units : Binds K W.d__law_units ["_law_rows"] []
  m__law_units : mg "_law_units" = some (.ref W.a__law_units)
  F__law_joined : Fun K "_law_joined" "_law_joined" s__law_joined W.a__law_joined W.d__law_joined
  b__law_joined : Binds K W.d__law_joined ["_law_rows"] []
  m__law_joined : mg "_law_joined" = some (.ref W.a__law_joined)
  F__law_together : Fun K "_law_together" "_law_together" s__law_together W.a__law_together W.d__law_together
  b__law_together : Binds K W.d__law_together ["_law_rows", "_law_units_here"] []
  m__law_together : mg "_law_together" = some (.ref W.a__law_together)
  F__law_taken : Fun K "_law_taken" "_law_taken" s__law_taken W.a__law_taken W.d__law_taken
  b__law_taken : Binds K W.d__law_taken ["_law_rows", "_law_units_here", "_law_many", "_law_kind", "_law_version", "_law_number"] []
  m__law_taken : mg "_law_taken" = some (.ref W.a__law_taken)
  F__law_written : Fun K "_law_written" "_law_written" s__law_written W.a__law_written W.d__law_written
  b__law_written : Binds K W.d__law_written ["_law_rows"] []
  m__law_written : mg "_law_written" = some (.ref W.a__law_written)
  F__law_take : Fun K "_law_take" "_law_take" s__law_take W.a__law_take W.d__law_take
  b__law_take : Binds K W.d__law_take ["_law_data", "_law_many", "_law_kind", "_law_version", "_law_number"] []
  m__law_take : mg "_law_take" = some (.ref W.a__law_take)
  F__law_offsets : Fun K "_law_offsets" "_law_offsets" s__law_offsets W.a__law_offsets W.d__law_offsets
  b__law_offsets : Binds K W.d__law_offsets ["_law_rows"] []
  m__law_offsets : mg "_law_offsets" = some (.ref W.a__law_offsets)
  F__law_body : Fun K "_law_body" "_law_body" s__law_body W.a__law_body W.d__law_body
  b__law_body : Binds K W.d__law_body ["_law_box", "_law_data", "_law_rows", "_law_at"] []
  m__law_body : mg "_law_body" = some (.ref W.a__law_body)
  F__law_right : Fun K "_law_right" "_law_right" s__law_right W.a__law_right W.d__law_right
  b__law_right : Binds K W.d__law_right ["_law_data", "_law_rows"] []
  m__law_right : mg "_law_right" = some (.ref W.a__law_right)
  F_law : Fun K "law" "law" s_law W.a_law W.d_law
  b_law : Binds K W.d_law ["_law_script"] []
  m_law : mg "law" = some (.ref W.a_law)
  n_int : mg "int" = none
  n_isinstance : mg "isinstance" = none
  n_len : mg "len" = none
  n_list : mg "list" = none
  n_range : mg "range" = none
  n_repr : mg "repr" = none
  n_sum : mg "sum" = none
  m_Full : mg "Full" = some (.ref A.c_Full)
  m_RecordError : mg "RecordError" = some (.ref A.c_RecordError)
  m_LIST_MARK : ∃ t, mg "LIST_MARK" = some (.int 128 t)
  m_UNIT : ∃ t, mg "UNIT" = some (.int 8 t)
  x_Full : PySem.W.excIn K A.c_Full [.type "ValueError", .type "Exception", .type "BaseException", .type "object"] "ValueError.__new__" = true
  k_Full : PySem.W.keepIn K (.ref A.c_Full) = true
  bb_Full : PySem.W.subIn K (.ref A.c_Full) (.type "BaseException") = some true
  tt_Full : PySem.W.typeIn K (.ref A.c_Full) = some (.type "type")
  xc : XC K A
section
variable {P : Program} {w : World} {K : PySem.W.Frag} {mg : Str → Option Value} {base : Heap} {A : Ad} {W : Tops}
theorem ok_word_number (T : Top K mg A W) : FnOk P w K mg base CX0 1 W.a_word_number W.d_word_number ["data", "offset", "size", "big"] (sp_word_number K A) := by
  refine T.F_word_number.ok sc_word_number (fun vs H Q E h => by first | (obtain ⟨rfl, _⟩ := h; rfl) | (obtain ⟨_, rfl, _⟩ := h; rfl) | (obtain ⟨_, _, rfl, _⟩ := h; rfl) | (obtain ⟨_, _, _, rfl, _⟩ := h; rfl) | (obtain ⟨_, _, _, _, rfl, _⟩ := h; rfl) | (obtain ⟨_, _, _, _, _, rfl, _⟩ := h; rfl) | (obtain ⟨_, _, _, _, _, _, rfl, _⟩ := h; rfl) | (obtain ⟨_, _, _, _, _, _, _, rfl, _⟩ := h; rfl) | (obtain ⟨_, _, _, _, _, _, _, _, rfl, _⟩ := h; rfl) | (obtain ⟨_, _, _, _, _, _, _, _, _, rfl, _⟩ := h; rfl) | (obtain ⟨_, _, _, _, _, _, _, _, _, _, rfl, _⟩ := h; rfl) | (obtain ⟨_, _, _, _, _, _, _, _, _, _, _, rfl, _⟩ := h; rfl) | (obtain ⟨_, _, _, _, _, _, _, _, _, _, _, _, rfl, _⟩ := h; rfl) | (obtain ⟨_, _, _, _, _, _, _, _, _, _, _, _, _, rfl, _⟩ := h; rfl) | (obtain ⟨_, _, _, _, _, _, _, _, _, _, _, _, _, _, rfl, _⟩ := h; rfl) | (obtain ⟨_, _, _, _, _, _, _, _, _, _, _, _, _, _, _, rfl, _⟩ := h; rfl) | (obtain ⟨_, _, _, _, _, _, _, _, _, _, _, _, _, _, _, _, rfl, _⟩ := h; rfl) | (obtain ⟨_, _, _, _, _, _, _, _, _, _, _, _, _, _, _, _, _, rfl, _⟩ := h; rfl) | (obtain ⟨_, _, _, _, _, _, _, _, _, _, _, _, _, _, _, _, _, _, rfl, _⟩ := h; rfl) | (obtain ⟨_, _, _, _, _, _, _, _, _, _, _, _, _, _, _, _, _, _, _, rfl, _⟩ := h; rfl) | (obtain ⟨_, _, _, _, _, _, _, _, _, _, _, _, _, _, _, _, _, _, _, _, rfl, _⟩ := h; rfl) | (obtain ⟨_, _, _, _, _, _, _, _, _, _, _, _, _, _, _, _, _, _, _, _, _, rfl, _⟩ := h; rfl) | (obtain ⟨_, _, _, _, _, _, _, _, _, _, _, _, _, _, _, _, _, _, _, _, _, _, rfl, _⟩ := h; rfl) | (obtain ⟨_, _, _, _, _, _, _, _, _, _, _, _, _, _, _, _, _, _, _, _, _, _, _, rfl, _⟩ := h; rfl) | (obtain ⟨_, _, _, _, _, _, _, _, _, _, _, _, _, _, _, _, _, _, _, _, _, _, _, _, rfl, _⟩ := h; rfl) | (obtain ⟨_, _, _, _, _, _, _, _, _, _, _, _, _, _, _, _, _, _, _, _, _, _, _, _, _, rfl, _⟩ := h; rfl) | (obtain ⟨_, _, _, _, _, _, _, _, _, _, _, _, _, _, _, _, _, _, _, _, _, _, _, _, _, _, rfl, _⟩ := h; rfl) | (obtain ⟨_, _, _, _, _, _, _, _, _, _, _, _, _, _, _, _, _, _, _, _, _, _, _, _, _, _, _, rfl, _⟩ := h; rfl) | (obtain ⟨_, _, _, _, _, _, _, _, _, _, _, _, _, _, _, _, _, _, _, _, _, _, _, _, _, _, _, _, rfl, _⟩ := h; rfl) | (obtain ⟨_, _, _, _, _, _, _, _, _, _, _, _, _, _, _, _, _, _, _, _, _, _, _, _, _, _, _, _, _, rfl, _⟩ := h; rfl) | (obtain ⟨_, _, _, _, _, _, _, _, _, _, _, _, _, _, _, _, _, _, _, _, _, _, _, _, _, _, _, _, _, _, rfl, _⟩ := h; rfl) | (obtain ⟨_, _, _, _, _, _, _, _, _, _, _, _, _, _, _, _, _, _, _, _, _, _, _, _, _, _, _, _, _, _, _, rfl, _⟩ := h; rfl)) (fun cdv A' outer s H vs Q E hr h => ⟨t_word_number K A, ?_, rd_word_number h⟩)
  unfold t_word_number
  exact (pss_cons (ps_set (i := 4) sc_word_number.nd rfl (Or.inl rfl) pe_int)
  (pss_cons (ps_for PassesOwn.never rfl (i_rng1 (pi_range1 (by rfl) T.n_range (pa_cons (pn 2) pa_nil))) (pg_name (i := 5) sc_word_number.nd rfl (Or.inl rfl))
    (pss_cons (ps_set (i := 6) sc_word_number.nd rfl (Or.inl rfl) (pe_ix ix_seq (pn 0) (pe_op o_add (pn 1) (p_ifE (p_truth (pn 3) (by intro _; rfl)) (pn 5) (pe_op o_sub (pe_op o_sub (pn 2) pe_int) (pn 5)))) (fun _ _ => rfl)))
  (pss_one (ps_set (i := 4) sc_word_number.nd rfl (Or.inl rfl) (pe_op o_add (pe_op o_mul (pn 4) pe_int) (pn 6))))))
  (pss_one (ps_ret (pn 4)))))
theorem ok_put_word_number (T : Top K mg A W) : FnOk P w K mg base CX0 1 W.a_put_word_number W.d_put_word_number ["data", "offset", "size", "big", "number"] (sp_put_word_number K A) := by
  refine T.F_put_word_number.ok sc_put_word_number (fun vs H Q E h => by first | (obtain ⟨rfl, _⟩ := h; rfl) | (obtain ⟨_, rfl, _⟩ := h; rfl) | (obtain ⟨_, _, rfl, _⟩ := h; rfl) | (obtain ⟨_, _, _, rfl, _⟩ := h; rfl) | (obtain ⟨_, _, _, _, rfl, _⟩ := h; rfl) | (obtain ⟨_, _, _, _, _, rfl, _⟩ := h; rfl) | (obtain ⟨_, _, _, _, _, _, rfl, _⟩ := h; rfl) | (obtain ⟨_, _, _, _, _, _, _, rfl, _⟩ := h; rfl) | (obtain ⟨_, _, _, _, _, _, _, _, rfl, _⟩ := h; rfl) | (obtain ⟨_, _, _, _, _, _, _, _, _, rfl, _⟩ := h; rfl) | (obtain ⟨_, _, _, _, _, _, _, _, _, _, rfl, _⟩ := h; rfl) | (obtain ⟨_, _, _, _, _, _, _, _, _, _, _, rfl, _⟩ := h; rfl) | (obtain ⟨_, _, _, _, _, _, _, _, _, _, _, _, rfl, _⟩ := h; rfl) | (obtain ⟨_, _, _, _, _, _, _, _, _, _, _, _, _, rfl, _⟩ := h; rfl) | (obtain ⟨_, _, _, _, _, _, _, _, _, _, _, _, _, _, rfl, _⟩ := h; rfl) | (obtain ⟨_, _, _, _, _, _, _, _, _, _, _, _, _, _, _, rfl, _⟩ := h; rfl) | (obtain ⟨_, _, _, _, _, _, _, _, _, _, _, _, _, _, _, _, rfl, _⟩ := h; rfl) | (obtain ⟨_, _, _, _, _, _, _, _, _, _, _, _, _, _, _, _, _, rfl, _⟩ := h; rfl) | (obtain ⟨_, _, _, _, _, _, _, _, _, _, _, _, _, _, _, _, _, _, rfl, _⟩ := h; rfl) | (obtain ⟨_, _, _, _, _, _, _, _, _, _, _, _, _, _, _, _, _, _, _, rfl, _⟩ := h; rfl) | (obtain ⟨_, _, _, _, _, _, _, _, _, _, _, _, _, _, _, _, _, _, _, _, rfl, _⟩ := h; rfl) | (obtain ⟨_, _, _, _, _, _, _, _, _, _, _, _, _, _, _, _, _, _, _, _, _, rfl, _⟩ := h; rfl) | (obtain ⟨_, _, _, _, _, _, _, _, _, _, _, _, _, _, _, _, _, _, _, _, _, _, rfl, _⟩ := h; rfl) | (obtain ⟨_, _, _, _, _, _, _, _, _, _, _, _, _, _, _, _, _, _, _, _, _, _, _, rfl, _⟩ := h; rfl) | (obtain ⟨_, _, _, _, _, _, _, _, _, _, _, _, _, _, _, _, _, _, _, _, _, _, _, _, rfl, _⟩ := h; rfl) | (obtain ⟨_, _, _, _, _, _, _, _, _, _, _, _, _, _, _, _, _, _, _, _, _, _, _, _, _, rfl, _⟩ := h; rfl) | (obtain ⟨_, _, _, _, _, _, _, _, _, _, _, _, _, _, _, _, _, _, _, _, _, _, _, _, _, _, rfl, _⟩ := h; rfl) | (obtain ⟨_, _, _, _, _, _, _, _, _, _, _, _, _, _, _, _, _, _, _, _, _, _, _, _, _, _, _, rfl, _⟩ := h; rfl) | (obtain ⟨_, _, _, _, _, _, _, _, _, _, _, _, _, _, _, _, _, _, _, _, _, _, _, _, _, _, _, _, rfl, _⟩ := h; rfl) | (obtain ⟨_, _, _, _, _, _, _, _, _, _, _, _, _, _, _, _, _, _, _, _, _, _, _, _, _, _, _, _, _, rfl, _⟩ := h; rfl) | (obtain ⟨_, _, _, _, _, _, _, _, _, _, _, _, _, _, _, _, _, _, _, _, _, _, _, _, _, _, _, _, _, _, rfl, _⟩ := h; rfl) | (obtain ⟨_, _, _, _, _, _, _, _, _, _, _, _, _, _, _, _, _, _, _, _, _, _, _, _, _, _, _, _, _, _, _, rfl, _⟩ := h; rfl)) (fun cdv A' outer s H vs Q E hr h => ⟨t_put_word_number K A, ?_, rd_put_word_number h⟩)
  unfold t_put_word_number
  exact (pss_one (ps_for PassesOwn.never rfl (i_rng1 (pi_range1 (by rfl) T.n_range (pa_cons (pn 2) pa_nil))) (pg_name (i := 5) sc_put_word_number.nd rfl (Or.inl rfl))
    (pss_cons (ps_asg (pe_op o_mod (pn 4) pe_int) (pg_sub (pn 0) (pe_op o_add (pn 1) (p_ifE (p_truth (pn 3) (by intro _; rfl)) (pe_op o_sub (pe_op o_sub (pn 2) pe_int) (pn 5)) (pn 5))) set_list))
  (pss_one (ps_set (i := 4) sc_put_word_number.nd rfl (Or.inl rfl) (pe_op o_fdiv (pn 4) pe_int))))))
theorem ok_read_word (T : Top K mg A W) : FnOk P w K mg base CX0 2 W.a_read_word W.d_read_word ["data", "offset", "size"] (sp_read_word K A) := by
  refine T.F_read_word.ok sc_read_word (fun vs H Q E h => by first | (obtain ⟨rfl, _⟩ := h; rfl) | (obtain ⟨_, rfl, _⟩ := h; rfl) | (obtain ⟨_, _, rfl, _⟩ := h; rfl) | (obtain ⟨_, _, _, rfl, _⟩ := h; rfl) | (obtain ⟨_, _, _, _, rfl, _⟩ := h; rfl) | (obtain ⟨_, _, _, _, _, rfl, _⟩ := h; rfl) | (obtain ⟨_, _, _, _, _, _, rfl, _⟩ := h; rfl) | (obtain ⟨_, _, _, _, _, _, _, rfl, _⟩ := h; rfl) | (obtain ⟨_, _, _, _, _, _, _, _, rfl, _⟩ := h; rfl) | (obtain ⟨_, _, _, _, _, _, _, _, _, rfl, _⟩ := h; rfl) | (obtain ⟨_, _, _, _, _, _, _, _, _, _, rfl, _⟩ := h; rfl) | (obtain ⟨_, _, _, _, _, _, _, _, _, _, _, rfl, _⟩ := h; rfl) | (obtain ⟨_, _, _, _, _, _, _, _, _, _, _, _, rfl, _⟩ := h; rfl) | (obtain ⟨_, _, _, _, _, _, _, _, _, _, _, _, _, rfl, _⟩ := h; rfl) | (obtain ⟨_, _, _, _, _, _, _, _, _, _, _, _, _, _, rfl, _⟩ := h; rfl) | (obtain ⟨_, _, _, _, _, _, _, _, _, _, _, _, _, _, _, rfl, _⟩ := h; rfl) | (obtain ⟨_, _, _, _, _, _, _, _, _, _, _, _, _, _, _, _, rfl, _⟩ := h; rfl) | (obtain ⟨_, _, _, _, _, _, _, _, _, _, _, _, _, _, _, _, _, rfl, _⟩ := h; rfl) | (obtain ⟨_, _, _, _, _, _, _, _, _, _, _, _, _, _, _, _, _, _, rfl, _⟩ := h; rfl) | (obtain ⟨_, _, _, _, _, _, _, _, _, _, _, _, _, _, _, _, _, _, _, rfl, _⟩ := h; rfl) | (obtain ⟨_, _, _, _, _, _, _, _, _, _, _, _, _, _, _, _, _, _, _, _, rfl, _⟩ := h; rfl) | (obtain ⟨_, _, _, _, _, _, _, _, _, _, _, _, _, _, _, _, _, _, _, _, _, rfl, _⟩ := h; rfl) | (obtain ⟨_, _, _, _, _, _, _, _, _, _, _, _, _, _, _, _, _, _, _, _, _, _, rfl, _⟩ := h; rfl) | (obtain ⟨_, _, _, _, _, _, _, _, _, _, _, _, _, _, _, _, _, _, _, _, _, _, _, rfl, _⟩ := h; rfl) | (obtain ⟨_, _, _, _, _, _, _, _, _, _, _, _, _, _, _, _, _, _, _, _, _, _, _, _, rfl, _⟩ := h; rfl) | (obtain ⟨_, _, _, _, _, _, _, _, _, _, _, _, _, _, _, _, _, _, _, _, _, _, _, _, _, rfl, _⟩ := h; rfl) | (obtain ⟨_, _, _, _, _, _, _, _, _, _, _, _, _, _, _, _, _, _, _, _, _, _, _, _, _, _, rfl, _⟩ := h; rfl) | (obtain ⟨_, _, _, _, _, _, _, _, _, _, _, _, _, _, _, _, _, _, _, _, _, _, _, _, _, _, _, rfl, _⟩ := h; rfl) | (obtain ⟨_, _, _, _, _, _, _, _, _, _, _, _, _, _, _, _, _, _, _, _, _, _, _, _, _, _, _, _, rfl, _⟩ := h; rfl) | (obtain ⟨_, _, _, _, _, _, _, _, _, _, _, _, _, _, _, _, _, _, _, _, _, _, _, _, _, _, _, _, _, rfl, _⟩ := h; rfl) | (obtain ⟨_, _, _, _, _, _, _, _, _, _, _, _, _, _, _, _, _, _, _, _, _, _, _, _, _, _, _, _, _, _, rfl, _⟩ := h; rfl) | (obtain ⟨_, _, _, _, _, _, _, _, _, _, _, _, _, _, _, _, _, _, _, _, _, _, _, _, _, _, _, _, _, _, _, rfl, _⟩ := h; rfl)) (fun cdv A' outer s H vs Q E hr h => ⟨t_read_word K A, ?_, rd_read_word h⟩)
  unfold t_read_word
  exact (pss_one (ps_ret (pe_call (ok_word_number T) (hr.mono (by decide)) (by rfl) T.m_word_number T.F_word_number.kp T.b_word_number .nil pass0 (pa_cons (pn 0) (pa_cons (pn 1) (pa_cons (pn 2) (pa_cons pe_bl pa_nil)))))))
theorem ok_write_word (T : Top K mg A W) : FnOk P w K mg base CX0 2 W.a_write_word W.d_write_word ["data", "offset", "size", "value"] (sp_write_word K A) := by
  refine T.F_write_word.ok sc_write_word (fun vs H Q E h => by first | (obtain ⟨rfl, _⟩ := h; rfl) | (obtain ⟨_, rfl, _⟩ := h; rfl) | (obtain ⟨_, _, rfl, _⟩ := h; rfl) | (obtain ⟨_, _, _, rfl, _⟩ := h; rfl) | (obtain ⟨_, _, _, _, rfl, _⟩ := h; rfl) | (obtain ⟨_, _, _, _, _, rfl, _⟩ := h; rfl) | (obtain ⟨_, _, _, _, _, _, rfl, _⟩ := h; rfl) | (obtain ⟨_, _, _, _, _, _, _, rfl, _⟩ := h; rfl) | (obtain ⟨_, _, _, _, _, _, _, _, rfl, _⟩ := h; rfl) | (obtain ⟨_, _, _, _, _, _, _, _, _, rfl, _⟩ := h; rfl) | (obtain ⟨_, _, _, _, _, _, _, _, _, _, rfl, _⟩ := h; rfl) | (obtain ⟨_, _, _, _, _, _, _, _, _, _, _, rfl, _⟩ := h; rfl) | (obtain ⟨_, _, _, _, _, _, _, _, _, _, _, _, rfl, _⟩ := h; rfl) | (obtain ⟨_, _, _, _, _, _, _, _, _, _, _, _, _, rfl, _⟩ := h; rfl) | (obtain ⟨_, _, _, _, _, _, _, _, _, _, _, _, _, _, rfl, _⟩ := h; rfl) | (obtain ⟨_, _, _, _, _, _, _, _, _, _, _, _, _, _, _, rfl, _⟩ := h; rfl) | (obtain ⟨_, _, _, _, _, _, _, _, _, _, _, _, _, _, _, _, rfl, _⟩ := h; rfl) | (obtain ⟨_, _, _, _, _, _, _, _, _, _, _, _, _, _, _, _, _, rfl, _⟩ := h; rfl) | (obtain ⟨_, _, _, _, _, _, _, _, _, _, _, _, _, _, _, _, _, _, rfl, _⟩ := h; rfl) | (obtain ⟨_, _, _, _, _, _, _, _, _, _, _, _, _, _, _, _, _, _, _, rfl, _⟩ := h; rfl) | (obtain ⟨_, _, _, _, _, _, _, _, _, _, _, _, _, _, _, _, _, _, _, _, rfl, _⟩ := h; rfl) | (obtain ⟨_, _, _, _, _, _, _, _, _, _, _, _, _, _, _, _, _, _, _, _, _, rfl, _⟩ := h; rfl) | (obtain ⟨_, _, _, _, _, _, _, _, _, _, _, _, _, _, _, _, _, _, _, _, _, _, rfl, _⟩ := h; rfl) | (obtain ⟨_, _, _, _, _, _, _, _, _, _, _, _, _, _, _, _, _, _, _, _, _, _, _, rfl, _⟩ := h; rfl) | (obtain ⟨_, _, _, _, _, _, _, _, _, _, _, _, _, _, _, _, _, _, _, _, _, _, _, _, rfl, _⟩ := h; rfl) | (obtain ⟨_, _, _, _, _, _, _, _, _, _, _, _, _, _, _, _, _, _, _, _, _, _, _, _, _, rfl, _⟩ := h; rfl) | (obtain ⟨_, _, _, _, _, _, _, _, _, _, _, _, _, _, _, _, _, _, _, _, _, _, _, _, _, _, rfl, _⟩ := h; rfl) | (obtain ⟨_, _, _, _, _, _, _, _, _, _, _, _, _, _, _, _, _, _, _, _, _, _, _, _, _, _, _, rfl, _⟩ := h; rfl) | (obtain ⟨_, _, _, _, _, _, _, _, _, _, _, _, _, _, _, _, _, _, _, _, _, _, _, _, _, _, _, _, rfl, _⟩ := h; rfl) | (obtain ⟨_, _, _, _, _, _, _, _, _, _, _, _, _, _, _, _, _, _, _, _, _, _, _, _, _, _, _, _, _, rfl, _⟩ := h; rfl) | (obtain ⟨_, _, _, _, _, _, _, _, _, _, _, _, _, _, _, _, _, _, _, _, _, _, _, _, _, _, _, _, _, _, rfl, _⟩ := h; rfl) | (obtain ⟨_, _, _, _, _, _, _, _, _, _, _, _, _, _, _, _, _, _, _, _, _, _, _, _, _, _, _, _, _, _, _, rfl, _⟩ := h; rfl)) (fun cdv A' outer s H vs Q E hr h => ⟨t_write_word K A, ?_, rd_write_word h⟩)
  unfold t_write_word
  exact (pss_one (ps_expr (pe_call (ok_put_word_number T) (hr.mono (by decide)) (by rfl) T.m_put_word_number T.F_put_word_number.kp T.b_put_word_number .nil pass0 (pa_cons (pn 0) (pa_cons (pn 1) (pa_cons (pn 2) (pa_cons pe_bl (pa_cons (pn 3) pa_nil))))))))
theorem ok_empty (T : Top K mg A W) : FnOk P w K mg base CX0 3 W.a_empty W.d_empty ["size"] (sp_empty K A) := by
  refine T.F_empty.ok sc_empty (fun vs H Q E h => by first | (obtain ⟨rfl, _⟩ := h; rfl) | (obtain ⟨_, rfl, _⟩ := h; rfl) | (obtain ⟨_, _, rfl, _⟩ := h; rfl) | (obtain ⟨_, _, _, rfl, _⟩ := h; rfl) | (obtain ⟨_, _, _, _, rfl, _⟩ := h; rfl) | (obtain ⟨_, _, _, _, _, rfl, _⟩ := h; rfl) | (obtain ⟨_, _, _, _, _, _, rfl, _⟩ := h; rfl) | (obtain ⟨_, _, _, _, _, _, _, rfl, _⟩ := h; rfl) | (obtain ⟨_, _, _, _, _, _, _, _, rfl, _⟩ := h; rfl) | (obtain ⟨_, _, _, _, _, _, _, _, _, rfl, _⟩ := h; rfl) | (obtain ⟨_, _, _, _, _, _, _, _, _, _, rfl, _⟩ := h; rfl) | (obtain ⟨_, _, _, _, _, _, _, _, _, _, _, rfl, _⟩ := h; rfl) | (obtain ⟨_, _, _, _, _, _, _, _, _, _, _, _, rfl, _⟩ := h; rfl) | (obtain ⟨_, _, _, _, _, _, _, _, _, _, _, _, _, rfl, _⟩ := h; rfl) | (obtain ⟨_, _, _, _, _, _, _, _, _, _, _, _, _, _, rfl, _⟩ := h; rfl) | (obtain ⟨_, _, _, _, _, _, _, _, _, _, _, _, _, _, _, rfl, _⟩ := h; rfl) | (obtain ⟨_, _, _, _, _, _, _, _, _, _, _, _, _, _, _, _, rfl, _⟩ := h; rfl) | (obtain ⟨_, _, _, _, _, _, _, _, _, _, _, _, _, _, _, _, _, rfl, _⟩ := h; rfl) | (obtain ⟨_, _, _, _, _, _, _, _, _, _, _, _, _, _, _, _, _, _, rfl, _⟩ := h; rfl) | (obtain ⟨_, _, _, _, _, _, _, _, _, _, _, _, _, _, _, _, _, _, _, rfl, _⟩ := h; rfl) | (obtain ⟨_, _, _, _, _, _, _, _, _, _, _, _, _, _, _, _, _, _, _, _, rfl, _⟩ := h; rfl) | (obtain ⟨_, _, _, _, _, _, _, _, _, _, _, _, _, _, _, _, _, _, _, _, _, rfl, _⟩ := h; rfl) | (obtain ⟨_, _, _, _, _, _, _, _, _, _, _, _, _, _, _, _, _, _, _, _, _, _, rfl, _⟩ := h; rfl) | (obtain ⟨_, _, _, _, _, _, _, _, _, _, _, _, _, _, _, _, _, _, _, _, _, _, _, rfl, _⟩ := h; rfl) | (obtain ⟨_, _, _, _, _, _, _, _, _, _, _, _, _, _, _, _, _, _, _, _, _, _, _, _, rfl, _⟩ := h; rfl) | (obtain ⟨_, _, _, _, _, _, _, _, _, _, _, _, _, _, _, _, _, _, _, _, _, _, _, _, _, rfl, _⟩ := h; rfl) | (obtain ⟨_, _, _, _, _, _, _, _, _, _, _, _, _, _, _, _, _, _, _, _, _, _, _, _, _, _, rfl, _⟩ := h; rfl) | (obtain ⟨_, _, _, _, _, _, _, _, _, _, _, _, _, _, _, _, _, _, _, _, _, _, _, _, _, _, _, rfl, _⟩ := h; rfl) | (obtain ⟨_, _, _, _, _, _, _, _, _, _, _, _, _, _, _, _, _, _, _, _, _, _, _, _, _, _, _, _, rfl, _⟩ := h; rfl) | (obtain ⟨_, _, _, _, _, _, _, _, _, _, _, _, _, _, _, _, _, _, _, _, _, _, _, _, _, _, _, _, _, rfl, _⟩ := h; rfl) | (obtain ⟨_, _, _, _, _, _, _, _, _, _, _, _, _, _, _, _, _, _, _, _, _, _, _, _, _, _, _, _, _, _, rfl, _⟩ := h; rfl) | (obtain ⟨_, _, _, _, _, _, _, _, _, _, _, _, _, _, _, _, _, _, _, _, _, _, _, _, _, _, _, _, _, _, _, rfl, _⟩ := h; rfl)) (fun cdv A' outer s H vs Q E hr h => ⟨t_empty K A, ?_, rd_empty h⟩)
  unfold t_empty
  exact (pss_cons (ps_set (i := 1) sc_empty.nd rfl (Or.inl rfl) (pe_op o_mul (pe_lst (pa_cons pe_int pa_nil)) (pn 0)))
  (pss_cons (ps_expr (pe_call (ok_write_word T) (hr.mono (by decide)) (by rfl) T.m_write_word T.F_write_word.kp T.b_write_word .nil pass0 (pa_cons (pn 1) (pa_cons pe_int (pa_cons pe_int (pa_cons (pe_op o_fdiv (pn 0) (pe_glob (by rfl) T.m_UNIT.choose_spec ⟨_, rfl⟩)) pa_nil))))))
  (pss_one (ps_ret (pn 1)))))
theorem ok_offsets (T : Top K mg A W) : FnOk P w K mg base CX0 3 W.a_offsets W.d_offsets ["data"] (sp_offsets K A) := by
  refine T.F_offsets.ok sc_offsets (fun vs H Q E h => by first | (obtain ⟨rfl, _⟩ := h; rfl) | (obtain ⟨_, rfl, _⟩ := h; rfl) | (obtain ⟨_, _, rfl, _⟩ := h; rfl) | (obtain ⟨_, _, _, rfl, _⟩ := h; rfl) | (obtain ⟨_, _, _, _, rfl, _⟩ := h; rfl) | (obtain ⟨_, _, _, _, _, rfl, _⟩ := h; rfl) | (obtain ⟨_, _, _, _, _, _, rfl, _⟩ := h; rfl) | (obtain ⟨_, _, _, _, _, _, _, rfl, _⟩ := h; rfl) | (obtain ⟨_, _, _, _, _, _, _, _, rfl, _⟩ := h; rfl) | (obtain ⟨_, _, _, _, _, _, _, _, _, rfl, _⟩ := h; rfl) | (obtain ⟨_, _, _, _, _, _, _, _, _, _, rfl, _⟩ := h; rfl) | (obtain ⟨_, _, _, _, _, _, _, _, _, _, _, rfl, _⟩ := h; rfl) | (obtain ⟨_, _, _, _, _, _, _, _, _, _, _, _, rfl, _⟩ := h; rfl) | (obtain ⟨_, _, _, _, _, _, _, _, _, _, _, _, _, rfl, _⟩ := h; rfl) | (obtain ⟨_, _, _, _, _, _, _, _, _, _, _, _, _, _, rfl, _⟩ := h; rfl) | (obtain ⟨_, _, _, _, _, _, _, _, _, _, _, _, _, _, _, rfl, _⟩ := h; rfl) | (obtain ⟨_, _, _, _, _, _, _, _, _, _, _, _, _, _, _, _, rfl, _⟩ := h; rfl) | (obtain ⟨_, _, _, _, _, _, _, _, _, _, _, _, _, _, _, _, _, rfl, _⟩ := h; rfl) | (obtain ⟨_, _, _, _, _, _, _, _, _, _, _, _, _, _, _, _, _, _, rfl, _⟩ := h; rfl) | (obtain ⟨_, _, _, _, _, _, _, _, _, _, _, _, _, _, _, _, _, _, _, rfl, _⟩ := h; rfl) | (obtain ⟨_, _, _, _, _, _, _, _, _, _, _, _, _, _, _, _, _, _, _, _, rfl, _⟩ := h; rfl) | (obtain ⟨_, _, _, _, _, _, _, _, _, _, _, _, _, _, _, _, _, _, _, _, _, rfl, _⟩ := h; rfl) | (obtain ⟨_, _, _, _, _, _, _, _, _, _, _, _, _, _, _, _, _, _, _, _, _, _, rfl, _⟩ := h; rfl) | (obtain ⟨_, _, _, _, _, _, _, _, _, _, _, _, _, _, _, _, _, _, _, _, _, _, _, rfl, _⟩ := h; rfl) | (obtain ⟨_, _, _, _, _, _, _, _, _, _, _, _, _, _, _, _, _, _, _, _, _, _, _, _, rfl, _⟩ := h; rfl) | (obtain ⟨_, _, _, _, _, _, _, _, _, _, _, _, _, _, _, _, _, _, _, _, _, _, _, _, _, rfl, _⟩ := h; rfl) | (obtain ⟨_, _, _, _, _, _, _, _, _, _, _, _, _, _, _, _, _, _, _, _, _, _, _, _, _, _, rfl, _⟩ := h; rfl) | (obtain ⟨_, _, _, _, _, _, _, _, _, _, _, _, _, _, _, _, _, _, _, _, _, _, _, _, _, _, _, rfl, _⟩ := h; rfl) | (obtain ⟨_, _, _, _, _, _, _, _, _, _, _, _, _, _, _, _, _, _, _, _, _, _, _, _, _, _, _, _, rfl, _⟩ := h; rfl) | (obtain ⟨_, _, _, _, _, _, _, _, _, _, _, _, _, _, _, _, _, _, _, _, _, _, _, _, _, _, _, _, _, rfl, _⟩ := h; rfl) | (obtain ⟨_, _, _, _, _, _, _, _, _, _, _, _, _, _, _, _, _, _, _, _, _, _, _, _, _, _, _, _, _, _, rfl, _⟩ := h; rfl) | (obtain ⟨_, _, _, _, _, _, _, _, _, _, _, _, _, _, _, _, _, _, _, _, _, _, _, _, _, _, _, _, _, _, _, rfl, _⟩ := h; rfl)) (fun cdv A' outer s H vs Q E hr h => ⟨t_offsets K A, ?_, rd_offsets h⟩)
  unfold t_offsets
  exact (pss_cons (ps_set (i := 1) sc_offsets.nd rfl (Or.inl rfl) (pe_lst pa_nil))
  (pss_cons (ps_set (i := 2) sc_offsets.nd rfl (Or.inl rfl) pe_int)
  (pss_cons (ps_while PassesOwn.never (m_test (pt_cmpR o_lt (pn 2) (pe_callB c_len (by rfl) T.n_len (by decide +kernel) (pa_cons (pn 0) pa_nil)) (nomark _)))
    (pss_cons (ps_expr (pe_bm PySem.F.plainAttrs_list PySem.F.slot_list_append PySem.F.type_list_append mt_append (pn 1) (pa_cons (pn 2) pa_nil)))
  (pss_one (p_aug (i := 2) sc_offsets.nd rfl (Or.inl rfl) (pe_op o_mul (pe_glob (by rfl) T.m_UNIT.choose_spec ⟨_, rfl⟩) (pe_call (ok_read_word T) (hr.mono (by decide)) (by rfl) T.m_read_word T.F_read_word.kp T.b_read_word .nil pass0 (pa_cons (pn 0) (pa_cons (pn 2) (pa_cons pe_int pa_nil))))) i_add))))
  (pss_one (ps_ret (pn 1))))))
theorem ok_block_at (T : Top K mg A W) : FnOk P w K mg base CX0 3 W.a_block_at W.d_block_at ["data", "offset"] (sp_block_at K A) := by
  refine T.F_block_at.ok sc_block_at (fun vs H Q E h => by first | (obtain ⟨rfl, _⟩ := h; rfl) | (obtain ⟨_, rfl, _⟩ := h; rfl) | (obtain ⟨_, _, rfl, _⟩ := h; rfl) | (obtain ⟨_, _, _, rfl, _⟩ := h; rfl) | (obtain ⟨_, _, _, _, rfl, _⟩ := h; rfl) | (obtain ⟨_, _, _, _, _, rfl, _⟩ := h; rfl) | (obtain ⟨_, _, _, _, _, _, rfl, _⟩ := h; rfl) | (obtain ⟨_, _, _, _, _, _, _, rfl, _⟩ := h; rfl) | (obtain ⟨_, _, _, _, _, _, _, _, rfl, _⟩ := h; rfl) | (obtain ⟨_, _, _, _, _, _, _, _, _, rfl, _⟩ := h; rfl) | (obtain ⟨_, _, _, _, _, _, _, _, _, _, rfl, _⟩ := h; rfl) | (obtain ⟨_, _, _, _, _, _, _, _, _, _, _, rfl, _⟩ := h; rfl) | (obtain ⟨_, _, _, _, _, _, _, _, _, _, _, _, rfl, _⟩ := h; rfl) | (obtain ⟨_, _, _, _, _, _, _, _, _, _, _, _, _, rfl, _⟩ := h; rfl) | (obtain ⟨_, _, _, _, _, _, _, _, _, _, _, _, _, _, rfl, _⟩ := h; rfl) | (obtain ⟨_, _, _, _, _, _, _, _, _, _, _, _, _, _, _, rfl, _⟩ := h; rfl) | (obtain ⟨_, _, _, _, _, _, _, _, _, _, _, _, _, _, _, _, rfl, _⟩ := h; rfl) | (obtain ⟨_, _, _, _, _, _, _, _, _, _, _, _, _, _, _, _, _, rfl, _⟩ := h; rfl) | (obtain ⟨_, _, _, _, _, _, _, _, _, _, _, _, _, _, _, _, _, _, rfl, _⟩ := h; rfl) | (obtain ⟨_, _, _, _, _, _, _, _, _, _, _, _, _, _, _, _, _, _, _, rfl, _⟩ := h; rfl) | (obtain ⟨_, _, _, _, _, _, _, _, _, _, _, _, _, _, _, _, _, _, _, _, rfl, _⟩ := h; rfl) | (obtain ⟨_, _, _, _, _, _, _, _, _, _, _, _, _, _, _, _, _, _, _, _, _, rfl, _⟩ := h; rfl) | (obtain ⟨_, _, _, _, _, _, _, _, _, _, _, _, _, _, _, _, _, _, _, _, _, _, rfl, _⟩ := h; rfl) | (obtain ⟨_, _, _, _, _, _, _, _, _, _, _, _, _, _, _, _, _, _, _, _, _, _, _, rfl, _⟩ := h; rfl) | (obtain ⟨_, _, _, _, _, _, _, _, _, _, _, _, _, _, _, _, _, _, _, _, _, _, _, _, rfl, _⟩ := h; rfl) | (obtain ⟨_, _, _, _, _, _, _, _, _, _, _, _, _, _, _, _, _, _, _, _, _, _, _, _, _, rfl, _⟩ := h; rfl) | (obtain ⟨_, _, _, _, _, _, _, _, _, _, _, _, _, _, _, _, _, _, _, _, _, _, _, _, _, _, rfl, _⟩ := h; rfl) | (obtain ⟨_, _, _, _, _, _, _, _, _, _, _, _, _, _, _, _, _, _, _, _, _, _, _, _, _, _, _, rfl, _⟩ := h; rfl) | (obtain ⟨_, _, _, _, _, _, _, _, _, _, _, _, _, _, _, _, _, _, _, _, _, _, _, _, _, _, _, _, rfl, _⟩ := h; rfl) | (obtain ⟨_, _, _, _, _, _, _, _, _, _, _, _, _, _, _, _, _, _, _, _, _, _, _, _, _, _, _, _, _, rfl, _⟩ := h; rfl) | (obtain ⟨_, _, _, _, _, _, _, _, _, _, _, _, _, _, _, _, _, _, _, _, _, _, _, _, _, _, _, _, _, _, rfl, _⟩ := h; rfl) | (obtain ⟨_, _, _, _, _, _, _, _, _, _, _, _, _, _, _, _, _, _, _, _, _, _, _, _, _, _, _, _, _, _, _, rfl, _⟩ := h; rfl)) (fun cdv A' outer s H vs Q E hr h => ⟨t_block_at K A, ?_, rd_block_at h⟩)
  unfold t_block_at
  exact (pss_one (ps_ret (pe_tup (pa_cons (pn 1) (pa_cons (pe_op o_mul (pe_glob (by rfl) T.m_UNIT.choose_spec ⟨_, rfl⟩) (pe_call (ok_read_word T) (hr.mono (by decide)) (by rfl) T.m_read_word T.F_read_word.kp T.b_read_word .nil pass0 (pa_cons (pn 0) (pa_cons (pn 1) (pa_cons pe_int pa_nil))))) (pa_cons (pe_call (ok_read_word T) (hr.mono (by decide)) (by rfl) T.m_read_word T.F_read_word.kp T.b_read_word .nil pass0 (pa_cons (pn 0) (pa_cons (pe_op o_add (pn 1) pe_int) (pa_cons pe_int pa_nil)))) (pa_cons (pe_ix ix_seq (pn 0) (pe_op o_add (pn 1) pe_int) (fun _ _ => rfl)) pa_nil)))))))
theorem ok_blocks (T : Top K mg A W) : FnOk P w K mg base CX0 4 W.a_blocks W.d_blocks ["data"] (sp_blocks K A) := by
  refine T.F_blocks.ok sc_blocks (fun vs H Q E h => by first | (obtain ⟨rfl, _⟩ := h; rfl) | (obtain ⟨_, rfl, _⟩ := h; rfl) | (obtain ⟨_, _, rfl, _⟩ := h; rfl) | (obtain ⟨_, _, _, rfl, _⟩ := h; rfl) | (obtain ⟨_, _, _, _, rfl, _⟩ := h; rfl) | (obtain ⟨_, _, _, _, _, rfl, _⟩ := h; rfl) | (obtain ⟨_, _, _, _, _, _, rfl, _⟩ := h; rfl) | (obtain ⟨_, _, _, _, _, _, _, rfl, _⟩ := h; rfl) | (obtain ⟨_, _, _, _, _, _, _, _, rfl, _⟩ := h; rfl) | (obtain ⟨_, _, _, _, _, _, _, _, _, rfl, _⟩ := h; rfl) | (obtain ⟨_, _, _, _, _, _, _, _, _, _, rfl, _⟩ := h; rfl) | (obtain ⟨_, _, _, _, _, _, _, _, _, _, _, rfl, _⟩ := h; rfl) | (obtain ⟨_, _, _, _, _, _, _, _, _, _, _, _, rfl, _⟩ := h; rfl) | (obtain ⟨_, _, _, _, _, _, _, _, _, _, _, _, _, rfl, _⟩ := h; rfl) | (obtain ⟨_, _, _, _, _, _, _, _, _, _, _, _, _, _, rfl, _⟩ := h; rfl) | (obtain ⟨_, _, _, _, _, _, _, _, _, _, _, _, _, _, _, rfl, _⟩ := h; rfl) | (obtain ⟨_, _, _, _, _, _, _, _, _, _, _, _, _, _, _, _, rfl, _⟩ := h; rfl) | (obtain ⟨_, _, _, _, _, _, _, _, _, _, _, _, _, _, _, _, _, rfl, _⟩ := h; rfl) | (obtain ⟨_, _, _, _, _, _, _, _, _, _, _, _, _, _, _, _, _, _, rfl, _⟩ := h; rfl) | (obtain ⟨_, _, _, _, _, _, _, _, _, _, _, _, _, _, _, _, _, _, _, rfl, _⟩ := h; rfl) | (obtain ⟨_, _, _, _, _, _, _, _, _, _, _, _, _, _, _, _, _, _, _, _, rfl, _⟩ := h; rfl) | (obtain ⟨_, _, _, _, _, _, _, _, _, _, _, _, _, _, _, _, _, _, _, _, _, rfl, _⟩ := h; rfl) | (obtain ⟨_, _, _, _, _, _, _, _, _, _, _, _, _, _, _, _, _, _, _, _, _, _, rfl, _⟩ := h; rfl) | (obtain ⟨_, _, _, _, _, _, _, _, _, _, _, _, _, _, _, _, _, _, _, _, _, _, _, rfl, _⟩ := h; rfl) | (obtain ⟨_, _, _, _, _, _, _, _, _, _, _, _, _, _, _, _, _, _, _, _, _, _, _, _, rfl, _⟩ := h; rfl) | (obtain ⟨_, _, _, _, _, _, _, _, _, _, _, _, _, _, _, _, _, _, _, _, _, _, _, _, _, rfl, _⟩ := h; rfl) | (obtain ⟨_, _, _, _, _, _, _, _, _, _, _, _, _, _, _, _, _, _, _, _, _, _, _, _, _, _, rfl, _⟩ := h; rfl) | (obtain ⟨_, _, _, _, _, _, _, _, _, _, _, _, _, _, _, _, _, _, _, _, _, _, _, _, _, _, _, rfl, _⟩ := h; rfl) | (obtain ⟨_, _, _, _, _, _, _, _, _, _, _, _, _, _, _, _, _, _, _, _, _, _, _, _, _, _, _, _, rfl, _⟩ := h; rfl) | (obtain ⟨_, _, _, _, _, _, _, _, _, _, _, _, _, _, _, _, _, _, _, _, _, _, _, _, _, _, _, _, _, rfl, _⟩ := h; rfl) | (obtain ⟨_, _, _, _, _, _, _, _, _, _, _, _, _, _, _, _, _, _, _, _, _, _, _, _, _, _, _, _, _, _, rfl, _⟩ := h; rfl) | (obtain ⟨_, _, _, _, _, _, _, _, _, _, _, _, _, _, _, _, _, _, _, _, _, _, _, _, _, _, _, _, _, _, _, rfl, _⟩ := h; rfl)) (fun cdv A' outer s H vs Q E hr h => ⟨t_blocks K A, ?_, rd_blocks h⟩)
  unfold t_blocks
  exact (pss_one (ps_ret (pe_lc (own := [("offset", 1)]) (g := (gName 1)) (tt := tYes) rfl sc_blocks.nd (i_list (pi_list (pe_call (ok_offsets T) (hr.mono (by decide)) (by rfl) T.m_offsets T.F_offsets.kp T.b_offsets .nil pass0 (pa_cons (pn 0) pa_nil)))) (blkOk_by (own := [("offset", 1)]) (N := nm_blocks) (sc := defScope s_blocks) (by decide +kernel)) (fun _ _ _ _ _ => (pg_name (i := 1) sc_blocks.nd rfl (Or.inl rfl))) (fun _ _ _ _ _ => pts_nil) (fun _ _ _ _ _ => (pe_call (ok_block_at T) (hr.mono (by decide)) (by rfl) T.m_block_at T.F_block_at.kp T.b_block_at .nil pass0 (pa_cons (pn 0) (pa_cons (pn 1) pa_nil)))))))
theorem ok_is_free (T : Top K mg A W) : FnOk P w K mg base CX0 1 W.a_is_free W.d_is_free ["data", "offset"] (sp_is_free K A) := by
  refine T.F_is_free.ok sc_is_free (fun vs H Q E h => by first | (obtain ⟨rfl, _⟩ := h; rfl) | (obtain ⟨_, rfl, _⟩ := h; rfl) | (obtain ⟨_, _, rfl, _⟩ := h; rfl) | (obtain ⟨_, _, _, rfl, _⟩ := h; rfl) | (obtain ⟨_, _, _, _, rfl, _⟩ := h; rfl) | (obtain ⟨_, _, _, _, _, rfl, _⟩ := h; rfl) | (obtain ⟨_, _, _, _, _, _, rfl, _⟩ := h; rfl) | (obtain ⟨_, _, _, _, _, _, _, rfl, _⟩ := h; rfl) | (obtain ⟨_, _, _, _, _, _, _, _, rfl, _⟩ := h; rfl) | (obtain ⟨_, _, _, _, _, _, _, _, _, rfl, _⟩ := h; rfl) | (obtain ⟨_, _, _, _, _, _, _, _, _, _, rfl, _⟩ := h; rfl) | (obtain ⟨_, _, _, _, _, _, _, _, _, _, _, rfl, _⟩ := h; rfl) | (obtain ⟨_, _, _, _, _, _, _, _, _, _, _, _, rfl, _⟩ := h; rfl) | (obtain ⟨_, _, _, _, _, _, _, _, _, _, _, _, _, rfl, _⟩ := h; rfl) | (obtain ⟨_, _, _, _, _, _, _, _, _, _, _, _, _, _, rfl, _⟩ := h; rfl) | (obtain ⟨_, _, _, _, _, _, _, _, _, _, _, _, _, _, _, rfl, _⟩ := h; rfl) | (obtain ⟨_, _, _, _, _, _, _, _, _, _, _, _, _, _, _, _, rfl, _⟩ := h; rfl) | (obtain ⟨_, _, _, _, _, _, _, _, _, _, _, _, _, _, _, _, _, rfl, _⟩ := h; rfl) | (obtain ⟨_, _, _, _, _, _, _, _, _, _, _, _, _, _, _, _, _, _, rfl, _⟩ := h; rfl) | (obtain ⟨_, _, _, _, _, _, _, _, _, _, _, _, _, _, _, _, _, _, _, rfl, _⟩ := h; rfl) | (obtain ⟨_, _, _, _, _, _, _, _, _, _, _, _, _, _, _, _, _, _, _, _, rfl, _⟩ := h; rfl) | (obtain ⟨_, _, _, _, _, _, _, _, _, _, _, _, _, _, _, _, _, _, _, _, _, rfl, _⟩ := h; rfl) | (obtain ⟨_, _, _, _, _, _, _, _, _, _, _, _, _, _, _, _, _, _, _, _, _, _, rfl, _⟩ := h; rfl) | (obtain ⟨_, _, _, _, _, _, _, _, _, _, _, _, _, _, _, _, _, _, _, _, _, _, _, rfl, _⟩ := h; rfl) | (obtain ⟨_, _, _, _, _, _, _, _, _, _, _, _, _, _, _, _, _, _, _, _, _, _, _, _, rfl, _⟩ := h; rfl) | (obtain ⟨_, _, _, _, _, _, _, _, _, _, _, _, _, _, _, _, _, _, _, _, _, _, _, _, _, rfl, _⟩ := h; rfl) | (obtain ⟨_, _, _, _, _, _, _, _, _, _, _, _, _, _, _, _, _, _, _, _, _, _, _, _, _, _, rfl, _⟩ := h; rfl) | (obtain ⟨_, _, _, _, _, _, _, _, _, _, _, _, _, _, _, _, _, _, _, _, _, _, _, _, _, _, _, rfl, _⟩ := h; rfl) | (obtain ⟨_, _, _, _, _, _, _, _, _, _, _, _, _, _, _, _, _, _, _, _, _, _, _, _, _, _, _, _, rfl, _⟩ := h; rfl) | (obtain ⟨_, _, _, _, _, _, _, _, _, _, _, _, _, _, _, _, _, _, _, _, _, _, _, _, _, _, _, _, _, rfl, _⟩ := h; rfl) | (obtain ⟨_, _, _, _, _, _, _, _, _, _, _, _, _, _, _, _, _, _, _, _, _, _, _, _, _, _, _, _, _, _, rfl, _⟩ := h; rfl) | (obtain ⟨_, _, _, _, _, _, _, _, _, _, _, _, _, _, _, _, _, _, _, _, _, _, _, _, _, _, _, _, _, _, _, rfl, _⟩ := h; rfl)) (fun cdv A' outer s H vs Q E hr h => ⟨t_is_free K A, ?_, rd_is_free h⟩)
  unfold t_is_free
  exact (pss_one (ps_ret (pe_cmpR (o_eq hr.units) (pe_ix ix_seq (pn 0) (pe_op o_add (pn 1) pe_int) (fun _ _ => rfl)) pe_int (nomark _))))
theorem ok_used (T : Top K mg A W) : FnOk P w K mg base CX0 4 W.a_used W.d_used ["data"] (sp_used K A) := by
  refine T.F_used.ok sc_used (fun vs H Q E h => by first | (obtain ⟨rfl, _⟩ := h; rfl) | (obtain ⟨_, rfl, _⟩ := h; rfl) | (obtain ⟨_, _, rfl, _⟩ := h; rfl) | (obtain ⟨_, _, _, rfl, _⟩ := h; rfl) | (obtain ⟨_, _, _, _, rfl, _⟩ := h; rfl) | (obtain ⟨_, _, _, _, _, rfl, _⟩ := h; rfl) | (obtain ⟨_, _, _, _, _, _, rfl, _⟩ := h; rfl) | (obtain ⟨_, _, _, _, _, _, _, rfl, _⟩ := h; rfl) | (obtain ⟨_, _, _, _, _, _, _, _, rfl, _⟩ := h; rfl) | (obtain ⟨_, _, _, _, _, _, _, _, _, rfl, _⟩ := h; rfl) | (obtain ⟨_, _, _, _, _, _, _, _, _, _, rfl, _⟩ := h; rfl) | (obtain ⟨_, _, _, _, _, _, _, _, _, _, _, rfl, _⟩ := h; rfl) | (obtain ⟨_, _, _, _, _, _, _, _, _, _, _, _, rfl, _⟩ := h; rfl) | (obtain ⟨_, _, _, _, _, _, _, _, _, _, _, _, _, rfl, _⟩ := h; rfl) | (obtain ⟨_, _, _, _, _, _, _, _, _, _, _, _, _, _, rfl, _⟩ := h; rfl) | (obtain ⟨_, _, _, _, _, _, _, _, _, _, _, _, _, _, _, rfl, _⟩ := h; rfl) | (obtain ⟨_, _, _, _, _, _, _, _, _, _, _, _, _, _, _, _, rfl, _⟩ := h; rfl) | (obtain ⟨_, _, _, _, _, _, _, _, _, _, _, _, _, _, _, _, _, rfl, _⟩ := h; rfl) | (obtain ⟨_, _, _, _, _, _, _, _, _, _, _, _, _, _, _, _, _, _, rfl, _⟩ := h; rfl) | (obtain ⟨_, _, _, _, _, _, _, _, _, _, _, _, _, _, _, _, _, _, _, rfl, _⟩ := h; rfl) | (obtain ⟨_, _, _, _, _, _, _, _, _, _, _, _, _, _, _, _, _, _, _, _, rfl, _⟩ := h; rfl) | (obtain ⟨_, _, _, _, _, _, _, _, _, _, _, _, _, _, _, _, _, _, _, _, _, rfl, _⟩ := h; rfl) | (obtain ⟨_, _, _, _, _, _, _, _, _, _, _, _, _, _, _, _, _, _, _, _, _, _, rfl, _⟩ := h; rfl) | (obtain ⟨_, _, _, _, _, _, _, _, _, _, _, _, _, _, _, _, _, _, _, _, _, _, _, rfl, _⟩ := h; rfl) | (obtain ⟨_, _, _, _, _, _, _, _, _, _, _, _, _, _, _, _, _, _, _, _, _, _, _, _, rfl, _⟩ := h; rfl) | (obtain ⟨_, _, _, _, _, _, _, _, _, _, _, _, _, _, _, _, _, _, _, _, _, _, _, _, _, rfl, _⟩ := h; rfl) | (obtain ⟨_, _, _, _, _, _, _, _, _, _, _, _, _, _, _, _, _, _, _, _, _, _, _, _, _, _, rfl, _⟩ := h; rfl) | (obtain ⟨_, _, _, _, _, _, _, _, _, _, _, _, _, _, _, _, _, _, _, _, _, _, _, _, _, _, _, rfl, _⟩ := h; rfl) | (obtain ⟨_, _, _, _, _, _, _, _, _, _, _, _, _, _, _, _, _, _, _, _, _, _, _, _, _, _, _, _, rfl, _⟩ := h; rfl) | (obtain ⟨_, _, _, _, _, _, _, _, _, _, _, _, _, _, _, _, _, _, _, _, _, _, _, _, _, _, _, _, _, rfl, _⟩ := h; rfl) | (obtain ⟨_, _, _, _, _, _, _, _, _, _, _, _, _, _, _, _, _, _, _, _, _, _, _, _, _, _, _, _, _, _, rfl, _⟩ := h; rfl) | (obtain ⟨_, _, _, _, _, _, _, _, _, _, _, _, _, _, _, _, _, _, _, _, _, _, _, _, _, _, _, _, _, _, _, rfl, _⟩ := h; rfl)) (fun cdv A' outer s H vs Q E hr h => ⟨t_used K A, ?_, rd_used h⟩)
  unfold t_used
  exact (pss_one (ps_ret (pe_callB (cr_sum rfl) (by rfl) T.n_sum (by decide +kernel) (pa_cons (pe_lc (own := [("offset", 1)]) (g := (gName 1)) (tt := (tNot (mTr K (tCall (sp_is_free K A) [] E0 (tCons (mV 0) (tCons (mV 1) tNil)))))) rfl sc_used.nd (i_list (pi_list (pe_call (ok_offsets T) (hr.mono (by decide)) (by rfl) T.m_offsets T.F_offsets.kp T.b_offsets .nil pass0 (pa_cons (pn 0) pa_nil)))) (blkOk_by (own := [("offset", 1)]) (N := nm_used) (sc := defScope s_used) (by decide +kernel)) (fun _ _ _ _ _ => (pg_name (i := 1) sc_used.nd rfl (Or.inl rfl))) (fun _ _ _ _ _ => (pts_one (pt_not (p_truth (pe_call (ok_is_free T) (hr.mono (by decide)) (by rfl) T.m_is_free T.F_is_free.kp T.b_is_free .nil pass0 (pa_cons (pn 0) (pa_cons (pn 1) pa_nil))) (by intro _; rfl))))) (fun _ _ _ _ _ => (pe_op o_mul (pe_glob (by rfl) T.m_UNIT.choose_spec ⟨_, rfl⟩) (pe_call (ok_read_word T) (hr.mono (by decide)) (by rfl) T.m_read_word T.F_read_word.kp T.b_read_word .nil pass0 (pa_cons (pn 0) (pa_cons (pn 1) (pa_cons pe_int pa_nil))))))) pa_nil))))
theorem ok_put_free (T : Top K mg A W) : FnOk P w K mg base CX0 3 W.a_put_free W.d_put_free ["data", "offset", "units"] (sp_put_free K A) := by
  refine T.F_put_free.ok sc_put_free (fun vs H Q E h => by first | (obtain ⟨rfl, _⟩ := h; rfl) | (obtain ⟨_, rfl, _⟩ := h; rfl) | (obtain ⟨_, _, rfl, _⟩ := h; rfl) | (obtain ⟨_, _, _, rfl, _⟩ := h; rfl) | (obtain ⟨_, _, _, _, rfl, _⟩ := h; rfl) | (obtain ⟨_, _, _, _, _, rfl, _⟩ := h; rfl) | (obtain ⟨_, _, _, _, _, _, rfl, _⟩ := h; rfl) | (obtain ⟨_, _, _, _, _, _, _, rfl, _⟩ := h; rfl) | (obtain ⟨_, _, _, _, _, _, _, _, rfl, _⟩ := h; rfl) | (obtain ⟨_, _, _, _, _, _, _, _, _, rfl, _⟩ := h; rfl) | (obtain ⟨_, _, _, _, _, _, _, _, _, _, rfl, _⟩ := h; rfl) | (obtain ⟨_, _, _, _, _, _, _, _, _, _, _, rfl, _⟩ := h; rfl) | (obtain ⟨_, _, _, _, _, _, _, _, _, _, _, _, rfl, _⟩ := h; rfl) | (obtain ⟨_, _, _, _, _, _, _, _, _, _, _, _, _, rfl, _⟩ := h; rfl) | (obtain ⟨_, _, _, _, _, _, _, _, _, _, _, _, _, _, rfl, _⟩ := h; rfl) | (obtain ⟨_, _, _, _, _, _, _, _, _, _, _, _, _, _, _, rfl, _⟩ := h; rfl) | (obtain ⟨_, _, _, _, _, _, _, _, _, _, _, _, _, _, _, _, rfl, _⟩ := h; rfl) | (obtain ⟨_, _, _, _, _, _, _, _, _, _, _, _, _, _, _, _, _, rfl, _⟩ := h; rfl) | (obtain ⟨_, _, _, _, _, _, _, _, _, _, _, _, _, _, _, _, _, _, rfl, _⟩ := h; rfl) | (obtain ⟨_, _, _, _, _, _, _, _, _, _, _, _, _, _, _, _, _, _, _, rfl, _⟩ := h; rfl) | (obtain ⟨_, _, _, _, _, _, _, _, _, _, _, _, _, _, _, _, _, _, _, _, rfl, _⟩ := h; rfl) | (obtain ⟨_, _, _, _, _, _, _, _, _, _, _, _, _, _, _, _, _, _, _, _, _, rfl, _⟩ := h; rfl) | (obtain ⟨_, _, _, _, _, _, _, _, _, _, _, _, _, _, _, _, _, _, _, _, _, _, rfl, _⟩ := h; rfl) | (obtain ⟨_, _, _, _, _, _, _, _, _, _, _, _, _, _, _, _, _, _, _, _, _, _, _, rfl, _⟩ := h; rfl) | (obtain ⟨_, _, _, _, _, _, _, _, _, _, _, _, _, _, _, _, _, _, _, _, _, _, _, _, rfl, _⟩ := h; rfl) | (obtain ⟨_, _, _, _, _, _, _, _, _, _, _, _, _, _, _, _, _, _, _, _, _, _, _, _, _, rfl, _⟩ := h; rfl) | (obtain ⟨_, _, _, _, _, _, _, _, _, _, _, _, _, _, _, _, _, _, _, _, _, _, _, _, _, _, rfl, _⟩ := h; rfl) | (obtain ⟨_, _, _, _, _, _, _, _, _, _, _, _, _, _, _, _, _, _, _, _, _, _, _, _, _, _, _, rfl, _⟩ := h; rfl) | (obtain ⟨_, _, _, _, _, _, _, _, _, _, _, _, _, _, _, _, _, _, _, _, _, _, _, _, _, _, _, _, rfl, _⟩ := h; rfl) | (obtain ⟨_, _, _, _, _, _, _, _, _, _, _, _, _, _, _, _, _, _, _, _, _, _, _, _, _, _, _, _, _, rfl, _⟩ := h; rfl) | (obtain ⟨_, _, _, _, _, _, _, _, _, _, _, _, _, _, _, _, _, _, _, _, _, _, _, _, _, _, _, _, _, _, rfl, _⟩ := h; rfl) | (obtain ⟨_, _, _, _, _, _, _, _, _, _, _, _, _, _, _, _, _, _, _, _, _, _, _, _, _, _, _, _, _, _, _, rfl, _⟩ := h; rfl)) (fun cdv A' outer s H vs Q E hr h => ⟨t_put_free K A, ?_, rd_put_free h⟩)
  unfold t_put_free
  exact (pss_cons (ps_for PassesOwn.never rfl (i_rng1 (pi_range1 (by rfl) T.n_range (pa_cons (pe_op o_mul (pn 2) (pe_glob (by rfl) T.m_UNIT.choose_spec ⟨_, rfl⟩)) pa_nil))) (pg_name (i := 3) sc_put_free.nd rfl (Or.inl rfl))
    (pss_one (ps_asg pe_int (pg_sub (pn 0) (pe_op o_add (pn 1) (pn 3)) set_list))))
  (pss_one (ps_expr (pe_call (ok_write_word T) (hr.mono (by decide)) (by rfl) T.m_write_word T.F_write_word.kp T.b_write_word .nil pass0 (pa_cons (pn 0) (pa_cons (pn 1) (pa_cons pe_int (pa_cons (pn 2) pa_nil))))))))
theorem ok_join_free (T : Top K mg A W) : FnOk P w K mg base CX0 4 W.a_join_free W.d_join_free ["data"] (sp_join_free K A) := by
  refine T.F_join_free.ok sc_join_free (fun vs H Q E h => by first | (obtain ⟨rfl, _⟩ := h; rfl) | (obtain ⟨_, rfl, _⟩ := h; rfl) | (obtain ⟨_, _, rfl, _⟩ := h; rfl) | (obtain ⟨_, _, _, rfl, _⟩ := h; rfl) | (obtain ⟨_, _, _, _, rfl, _⟩ := h; rfl) | (obtain ⟨_, _, _, _, _, rfl, _⟩ := h; rfl) | (obtain ⟨_, _, _, _, _, _, rfl, _⟩ := h; rfl) | (obtain ⟨_, _, _, _, _, _, _, rfl, _⟩ := h; rfl) | (obtain ⟨_, _, _, _, _, _, _, _, rfl, _⟩ := h; rfl) | (obtain ⟨_, _, _, _, _, _, _, _, _, rfl, _⟩ := h; rfl) | (obtain ⟨_, _, _, _, _, _, _, _, _, _, rfl, _⟩ := h; rfl) | (obtain ⟨_, _, _, _, _, _, _, _, _, _, _, rfl, _⟩ := h; rfl) | (obtain ⟨_, _, _, _, _, _, _, _, _, _, _, _, rfl, _⟩ := h; rfl) | (obtain ⟨_, _, _, _, _, _, _, _, _, _, _, _, _, rfl, _⟩ := h; rfl) | (obtain ⟨_, _, _, _, _, _, _, _, _, _, _, _, _, _, rfl, _⟩ := h; rfl) | (obtain ⟨_, _, _, _, _, _, _, _, _, _, _, _, _, _, _, rfl, _⟩ := h; rfl) | (obtain ⟨_, _, _, _, _, _, _, _, _, _, _, _, _, _, _, _, rfl, _⟩ := h; rfl) | (obtain ⟨_, _, _, _, _, _, _, _, _, _, _, _, _, _, _, _, _, rfl, _⟩ := h; rfl) | (obtain ⟨_, _, _, _, _, _, _, _, _, _, _, _, _, _, _, _, _, _, rfl, _⟩ := h; rfl) | (obtain ⟨_, _, _, _, _, _, _, _, _, _, _, _, _, _, _, _, _, _, _, rfl, _⟩ := h; rfl) | (obtain ⟨_, _, _, _, _, _, _, _, _, _, _, _, _, _, _, _, _, _, _, _, rfl, _⟩ := h; rfl) | (obtain ⟨_, _, _, _, _, _, _, _, _, _, _, _, _, _, _, _, _, _, _, _, _, rfl, _⟩ := h; rfl) | (obtain ⟨_, _, _, _, _, _, _, _, _, _, _, _, _, _, _, _, _, _, _, _, _, _, rfl, _⟩ := h; rfl) | (obtain ⟨_, _, _, _, _, _, _, _, _, _, _, _, _, _, _, _, _, _, _, _, _, _, _, rfl, _⟩ := h; rfl) | (obtain ⟨_, _, _, _, _, _, _, _, _, _, _, _, _, _, _, _, _, _, _, _, _, _, _, _, rfl, _⟩ := h; rfl) | (obtain ⟨_, _, _, _, _, _, _, _, _, _, _, _, _, _, _, _, _, _, _, _, _, _, _, _, _, rfl, _⟩ := h; rfl) | (obtain ⟨_, _, _, _, _, _, _, _, _, _, _, _, _, _, _, _, _, _, _, _, _, _, _, _, _, _, rfl, _⟩ := h; rfl) | (obtain ⟨_, _, _, _, _, _, _, _, _, _, _, _, _, _, _, _, _, _, _, _, _, _, _, _, _, _, _, rfl, _⟩ := h; rfl) | (obtain ⟨_, _, _, _, _, _, _, _, _, _, _, _, _, _, _, _, _, _, _, _, _, _, _, _, _, _, _, _, rfl, _⟩ := h; rfl) | (obtain ⟨_, _, _, _, _, _, _, _, _, _, _, _, _, _, _, _, _, _, _, _, _, _, _, _, _, _, _, _, _, rfl, _⟩ := h; rfl) | (obtain ⟨_, _, _, _, _, _, _, _, _, _, _, _, _, _, _, _, _, _, _, _, _, _, _, _, _, _, _, _, _, _, rfl, _⟩ := h; rfl) | (obtain ⟨_, _, _, _, _, _, _, _, _, _, _, _, _, _, _, _, _, _, _, _, _, _, _, _, _, _, _, _, _, _, _, rfl, _⟩ := h; rfl)) (fun cdv A' outer s H vs Q E hr h => ⟨t_join_free K A, ?_, rd_join_free h⟩)
  unfold t_join_free
  exact (pss_cons (ps_set (i := 1) sc_join_free.nd rfl (Or.inl rfl) pe_non)
  (pss_one (ps_for PassesOwn.never rfl (i_list (pi_list (pe_call (ok_offsets T) (hr.mono (by decide)) (by rfl) T.m_offsets T.F_offsets.kp T.b_offsets .nil pass0 (pa_cons (pn 0) pa_nil)))) (pg_name (i := 2) sc_join_free.nd rfl (Or.inl rfl))
    (pss_one (p_if (pt_not (p_truth (pe_call (ok_is_free T) (hr.mono (by decide)) (by rfl) T.m_is_free T.F_is_free.kp T.b_is_free .nil pass0 (pa_cons (pn 0) (pa_cons (pn 2) pa_nil))) (by intro _; rfl)))
    (pss_one (ps_set (i := 1) sc_join_free.nd rfl (Or.inl rfl) pe_non))
    (pss_one (p_if (m_test (pt_cmpR o_isN (pn 1) pe_non (nomark _)))
    (pss_one (ps_set (i := 1) sc_join_free.nd rfl (Or.inl rfl) (pn 2)))
    (pss_cons (ps_set (i := 3) sc_join_free.nd rfl (Or.inl rfl) (pe_op o_add (pe_call (ok_read_word T) (hr.mono (by decide)) (by rfl) T.m_read_word T.F_read_word.kp T.b_read_word .nil pass0 (pa_cons (pn 0) (pa_cons (pn 1) (pa_cons pe_int pa_nil)))) (pe_call (ok_read_word T) (hr.mono (by decide)) (by rfl) T.m_read_word T.F_read_word.kp T.b_read_word .nil pass0 (pa_cons (pn 0) (pa_cons (pn 2) (pa_cons pe_int pa_nil))))))
  (pss_one (ps_expr (pe_call (ok_put_free T) (hr.mono (by decide)) (by rfl) T.m_put_free T.F_put_free.kp T.b_put_free .nil pass0 (pa_cons (pn 0) (pa_cons (pn 1) (pa_cons (pn 3) pa_nil))))))))))))))
theorem ok_push_together (T : Top K mg A W) : FnOk P w K mg base CX0 4 W.a_push_together W.d_push_together ["data"] (sp_push_together K A) := by
  refine T.F_push_together.ok sc_push_together (fun vs H Q E h => by first | (obtain ⟨rfl, _⟩ := h; rfl) | (obtain ⟨_, rfl, _⟩ := h; rfl) | (obtain ⟨_, _, rfl, _⟩ := h; rfl) | (obtain ⟨_, _, _, rfl, _⟩ := h; rfl) | (obtain ⟨_, _, _, _, rfl, _⟩ := h; rfl) | (obtain ⟨_, _, _, _, _, rfl, _⟩ := h; rfl) | (obtain ⟨_, _, _, _, _, _, rfl, _⟩ := h; rfl) | (obtain ⟨_, _, _, _, _, _, _, rfl, _⟩ := h; rfl) | (obtain ⟨_, _, _, _, _, _, _, _, rfl, _⟩ := h; rfl) | (obtain ⟨_, _, _, _, _, _, _, _, _, rfl, _⟩ := h; rfl) | (obtain ⟨_, _, _, _, _, _, _, _, _, _, rfl, _⟩ := h; rfl) | (obtain ⟨_, _, _, _, _, _, _, _, _, _, _, rfl, _⟩ := h; rfl) | (obtain ⟨_, _, _, _, _, _, _, _, _, _, _, _, rfl, _⟩ := h; rfl) | (obtain ⟨_, _, _, _, _, _, _, _, _, _, _, _, _, rfl, _⟩ := h; rfl) | (obtain ⟨_, _, _, _, _, _, _, _, _, _, _, _, _, _, rfl, _⟩ := h; rfl) | (obtain ⟨_, _, _, _, _, _, _, _, _, _, _, _, _, _, _, rfl, _⟩ := h; rfl) | (obtain ⟨_, _, _, _, _, _, _, _, _, _, _, _, _, _, _, _, rfl, _⟩ := h; rfl) | (obtain ⟨_, _, _, _, _, _, _, _, _, _, _, _, _, _, _, _, _, rfl, _⟩ := h; rfl) | (obtain ⟨_, _, _, _, _, _, _, _, _, _, _, _, _, _, _, _, _, _, rfl, _⟩ := h; rfl) | (obtain ⟨_, _, _, _, _, _, _, _, _, _, _, _, _, _, _, _, _, _, _, rfl, _⟩ := h; rfl) | (obtain ⟨_, _, _, _, _, _, _, _, _, _, _, _, _, _, _, _, _, _, _, _, rfl, _⟩ := h; rfl) | (obtain ⟨_, _, _, _, _, _, _, _, _, _, _, _, _, _, _, _, _, _, _, _, _, rfl, _⟩ := h; rfl) | (obtain ⟨_, _, _, _, _, _, _, _, _, _, _, _, _, _, _, _, _, _, _, _, _, _, rfl, _⟩ := h; rfl) | (obtain ⟨_, _, _, _, _, _, _, _, _, _, _, _, _, _, _, _, _, _, _, _, _, _, _, rfl, _⟩ := h; rfl) | (obtain ⟨_, _, _, _, _, _, _, _, _, _, _, _, _, _, _, _, _, _, _, _, _, _, _, _, rfl, _⟩ := h; rfl) | (obtain ⟨_, _, _, _, _, _, _, _, _, _, _, _, _, _, _, _, _, _, _, _, _, _, _, _, _, rfl, _⟩ := h; rfl) | (obtain ⟨_, _, _, _, _, _, _, _, _, _, _, _, _, _, _, _, _, _, _, _, _, _, _, _, _, _, rfl, _⟩ := h; rfl) | (obtain ⟨_, _, _, _, _, _, _, _, _, _, _, _, _, _, _, _, _, _, _, _, _, _, _, _, _, _, _, rfl, _⟩ := h; rfl) | (obtain ⟨_, _, _, _, _, _, _, _, _, _, _, _, _, _, _, _, _, _, _, _, _, _, _, _, _, _, _, _, rfl, _⟩ := h; rfl) | (obtain ⟨_, _, _, _, _, _, _, _, _, _, _, _, _, _, _, _, _, _, _, _, _, _, _, _, _, _, _, _, _, rfl, _⟩ := h; rfl) | (obtain ⟨_, _, _, _, _, _, _, _, _, _, _, _, _, _, _, _, _, _, _, _, _, _, _, _, _, _, _, _, _, _, rfl, _⟩ := h; rfl) | (obtain ⟨_, _, _, _, _, _, _, _, _, _, _, _, _, _, _, _, _, _, _, _, _, _, _, _, _, _, _, _, _, _, _, rfl, _⟩ := h; rfl)) (fun cdv A' outer s H vs Q E hr h => ⟨t_push_together K A, ?_, rd_push_together h⟩)
  unfold t_push_together
  exact (pss_cons (ps_set (i := 1) sc_push_together.nd rfl (Or.inl rfl) (pe_lst pa_nil))
  (pss_cons (ps_for PassesOwn.never rfl (i_list (pi_list (pe_call (ok_offsets T) (hr.mono (by decide)) (by rfl) T.m_offsets T.F_offsets.kp T.b_offsets .nil pass0 (pa_cons (pn 0) pa_nil)))) (pg_name (i := 2) sc_push_together.nd rfl (Or.inl rfl))
    (pss_one (p_if (pt_not (p_truth (pe_call (ok_is_free T) (hr.mono (by decide)) (by rfl) T.m_is_free T.F_is_free.kp T.b_is_free .nil pass0 (pa_cons (pn 0) (pa_cons (pn 2) pa_nil))) (by intro _; rfl)))
    (pss_one (ps_expr (pe_bm PySem.F.plainAttrs_list PySem.F.slot_list_extend PySem.F.type_list_extend mt_extend (pn 1) (pa_cons (pe_slice o_sl (pn 0) (p_some (pn 2)) (p_some (pe_op o_add (pn 2) (pe_op o_mul (pe_glob (by rfl) T.m_UNIT.choose_spec ⟨_, rfl⟩) (pe_call (ok_read_word T) (hr.mono (by decide)) (by rfl) T.m_read_word T.F_read_word.kp T.b_read_word .nil pass0 (pa_cons (pn 0) (pa_cons (pn 2) (pa_cons pe_int pa_nil)))))))) pa_nil))))
    pss_nil)))
  (pss_cons (ps_set (i := 3) sc_push_together.nd rfl (Or.inl rfl) (pe_op o_fdiv (pe_op o_sub (pe_callB c_len (by rfl) T.n_len (by decide +kernel) (pa_cons (pn 0) pa_nil)) (pe_callB c_len (by rfl) T.n_len (by decide +kernel) (pa_cons (pn 1) pa_nil))) (pe_glob (by rfl) T.m_UNIT.choose_spec ⟨_, rfl⟩)))
  (pss_cons (ps_asg (pn 1) (pg_slTo (pn 0) (pe_callB c_len (by rfl) T.n_len (by decide +kernel) (pa_cons (pn 1) pa_nil))))
  (pss_one (p_if (m_test (pt_cmpR o_gt (pn 3) pe_int (nomark _)))
    (pss_one (ps_expr (pe_call (ok_put_free T) (hr.mono (by decide)) (by rfl) T.m_put_free T.F_put_free.kp T.b_put_free .nil pass0 (pa_cons (pn 0) (pa_cons (pe_callB c_len (by rfl) T.n_len (by decide +kernel) (pa_cons (pn 1) pa_nil)) (pa_cons (pn 3) pa_nil))))))
    pss_nil))))))
theorem ok_free_place (T : Top K mg A W) : FnOk P w K mg base CX0 4 W.a_free_place W.d_free_place ["data", "units"] (sp_free_place K A) := by
  refine T.F_free_place.ok sc_free_place (fun vs H Q E h => by first | (obtain ⟨rfl, _⟩ := h; rfl) | (obtain ⟨_, rfl, _⟩ := h; rfl) | (obtain ⟨_, _, rfl, _⟩ := h; rfl) | (obtain ⟨_, _, _, rfl, _⟩ := h; rfl) | (obtain ⟨_, _, _, _, rfl, _⟩ := h; rfl) | (obtain ⟨_, _, _, _, _, rfl, _⟩ := h; rfl) | (obtain ⟨_, _, _, _, _, _, rfl, _⟩ := h; rfl) | (obtain ⟨_, _, _, _, _, _, _, rfl, _⟩ := h; rfl) | (obtain ⟨_, _, _, _, _, _, _, _, rfl, _⟩ := h; rfl) | (obtain ⟨_, _, _, _, _, _, _, _, _, rfl, _⟩ := h; rfl) | (obtain ⟨_, _, _, _, _, _, _, _, _, _, rfl, _⟩ := h; rfl) | (obtain ⟨_, _, _, _, _, _, _, _, _, _, _, rfl, _⟩ := h; rfl) | (obtain ⟨_, _, _, _, _, _, _, _, _, _, _, _, rfl, _⟩ := h; rfl) | (obtain ⟨_, _, _, _, _, _, _, _, _, _, _, _, _, rfl, _⟩ := h; rfl) | (obtain ⟨_, _, _, _, _, _, _, _, _, _, _, _, _, _, rfl, _⟩ := h; rfl) | (obtain ⟨_, _, _, _, _, _, _, _, _, _, _, _, _, _, _, rfl, _⟩ := h; rfl) | (obtain ⟨_, _, _, _, _, _, _, _, _, _, _, _, _, _, _, _, rfl, _⟩ := h; rfl) | (obtain ⟨_, _, _, _, _, _, _, _, _, _, _, _, _, _, _, _, _, rfl, _⟩ := h; rfl) | (obtain ⟨_, _, _, _, _, _, _, _, _, _, _, _, _, _, _, _, _, _, rfl, _⟩ := h; rfl) | (obtain ⟨_, _, _, _, _, _, _, _, _, _, _, _, _, _, _, _, _, _, _, rfl, _⟩ := h; rfl) | (obtain ⟨_, _, _, _, _, _, _, _, _, _, _, _, _, _, _, _, _, _, _, _, rfl, _⟩ := h; rfl) | (obtain ⟨_, _, _, _, _, _, _, _, _, _, _, _, _, _, _, _, _, _, _, _, _, rfl, _⟩ := h; rfl) | (obtain ⟨_, _, _, _, _, _, _, _, _, _, _, _, _, _, _, _, _, _, _, _, _, _, rfl, _⟩ := h; rfl) | (obtain ⟨_, _, _, _, _, _, _, _, _, _, _, _, _, _, _, _, _, _, _, _, _, _, _, rfl, _⟩ := h; rfl) | (obtain ⟨_, _, _, _, _, _, _, _, _, _, _, _, _, _, _, _, _, _, _, _, _, _, _, _, rfl, _⟩ := h; rfl) | (obtain ⟨_, _, _, _, _, _, _, _, _, _, _, _, _, _, _, _, _, _, _, _, _, _, _, _, _, rfl, _⟩ := h; rfl) | (obtain ⟨_, _, _, _, _, _, _, _, _, _, _, _, _, _, _, _, _, _, _, _, _, _, _, _, _, _, rfl, _⟩ := h; rfl) | (obtain ⟨_, _, _, _, _, _, _, _, _, _, _, _, _, _, _, _, _, _, _, _, _, _, _, _, _, _, _, rfl, _⟩ := h; rfl) | (obtain ⟨_, _, _, _, _, _, _, _, _, _, _, _, _, _, _, _, _, _, _, _, _, _, _, _, _, _, _, _, rfl, _⟩ := h; rfl) | (obtain ⟨_, _, _, _, _, _, _, _, _, _, _, _, _, _, _, _, _, _, _, _, _, _, _, _, _, _, _, _, _, rfl, _⟩ := h; rfl) | (obtain ⟨_, _, _, _, _, _, _, _, _, _, _, _, _, _, _, _, _, _, _, _, _, _, _, _, _, _, _, _, _, _, rfl, _⟩ := h; rfl) | (obtain ⟨_, _, _, _, _, _, _, _, _, _, _, _, _, _, _, _, _, _, _, _, _, _, _, _, _, _, _, _, _, _, _, rfl, _⟩ := h; rfl)) (fun cdv A' outer s H vs Q E hr h => ⟨t_free_place K A, ?_, rd_free_place h⟩)
  unfold t_free_place
  exact (pss_cons (ps_for PassesOwn.never rfl (i_list (pi_list (pe_call (ok_offsets T) (hr.mono (by decide)) (by rfl) T.m_offsets T.F_offsets.kp T.b_offsets .nil pass0 (pa_cons (pn 0) pa_nil)))) (pg_name (i := 2) sc_free_place.nd rfl (Or.inl rfl))
    (pss_one (p_if (PW.pt (pw_and (p_truth (pe_call (ok_is_free T) (hr.mono (by decide)) (by rfl) T.m_is_free T.F_is_free.kp T.b_is_free .nil pass0 (pa_cons (pn 0) (pa_cons (pn 2) pa_nil))) (by intro _; rfl)) (pw_and1 (m_test (pt_cmpR o_ge (pe_call (ok_read_word T) (hr.mono (by decide)) (by rfl) T.m_read_word T.F_read_word.kp T.b_read_word .nil pass0 (pa_cons (pn 0) (pa_cons (pn 2) (pa_cons pe_int pa_nil)))) (pn 1) (nomark _))))))
    (pss_one (ps_ret (pn 2)))
    pss_nil)))
  (pss_one (ps_ret pe_non)))
theorem ok_take (T : Top K mg A W) : FnOk P w K mg base (L2.CX P w) 5 W.a_take W.d_take ["data", "units", "kind", "version", "number"] (sp_take K A) := by
  refine T.F_take.okX sc_take (fun vs H Q E h => by first | (obtain ⟨rfl, _⟩ := h; rfl) | (obtain ⟨_, rfl, _⟩ := h; rfl) | (obtain ⟨_, _, rfl, _⟩ := h; rfl) | (obtain ⟨_, _, _, rfl, _⟩ := h; rfl) | (obtain ⟨_, _, _, _, rfl, _⟩ := h; rfl) | (obtain ⟨_, _, _, _, _, rfl, _⟩ := h; rfl) | (obtain ⟨_, _, _, _, _, _, rfl, _⟩ := h; rfl) | (obtain ⟨_, _, _, _, _, _, _, rfl, _⟩ := h; rfl) | (obtain ⟨_, _, _, _, _, _, _, _, rfl, _⟩ := h; rfl) | (obtain ⟨_, _, _, _, _, _, _, _, _, rfl, _⟩ := h; rfl) | (obtain ⟨_, _, _, _, _, _, _, _, _, _, rfl, _⟩ := h; rfl) | (obtain ⟨_, _, _, _, _, _, _, _, _, _, _, rfl, _⟩ := h; rfl) | (obtain ⟨_, _, _, _, _, _, _, _, _, _, _, _, rfl, _⟩ := h; rfl) | (obtain ⟨_, _, _, _, _, _, _, _, _, _, _, _, _, rfl, _⟩ := h; rfl) | (obtain ⟨_, _, _, _, _, _, _, _, _, _, _, _, _, _, rfl, _⟩ := h; rfl) | (obtain ⟨_, _, _, _, _, _, _, _, _, _, _, _, _, _, _, rfl, _⟩ := h; rfl) | (obtain ⟨_, _, _, _, _, _, _, _, _, _, _, _, _, _, _, _, rfl, _⟩ := h; rfl) | (obtain ⟨_, _, _, _, _, _, _, _, _, _, _, _, _, _, _, _, _, rfl, _⟩ := h; rfl) | (obtain ⟨_, _, _, _, _, _, _, _, _, _, _, _, _, _, _, _, _, _, rfl, _⟩ := h; rfl) | (obtain ⟨_, _, _, _, _, _, _, _, _, _, _, _, _, _, _, _, _, _, _, rfl, _⟩ := h; rfl) | (obtain ⟨_, _, _, _, _, _, _, _, _, _, _, _, _, _, _, _, _, _, _, _, rfl, _⟩ := h; rfl) | (obtain ⟨_, _, _, _, _, _, _, _, _, _, _, _, _, _, _, _, _, _, _, _, _, rfl, _⟩ := h; rfl) | (obtain ⟨_, _, _, _, _, _, _, _, _, _, _, _, _, _, _, _, _, _, _, _, _, _, rfl, _⟩ := h; rfl) | (obtain ⟨_, _, _, _, _, _, _, _, _, _, _, _, _, _, _, _, _, _, _, _, _, _, _, rfl, _⟩ := h; rfl) | (obtain ⟨_, _, _, _, _, _, _, _, _, _, _, _, _, _, _, _, _, _, _, _, _, _, _, _, rfl, _⟩ := h; rfl) | (obtain ⟨_, _, _, _, _, _, _, _, _, _, _, _, _, _, _, _, _, _, _, _, _, _, _, _, _, rfl, _⟩ := h; rfl) | (obtain ⟨_, _, _, _, _, _, _, _, _, _, _, _, _, _, _, _, _, _, _, _, _, _, _, _, _, _, rfl, _⟩ := h; rfl) | (obtain ⟨_, _, _, _, _, _, _, _, _, _, _, _, _, _, _, _, _, _, _, _, _, _, _, _, _, _, _, rfl, _⟩ := h; rfl) | (obtain ⟨_, _, _, _, _, _, _, _, _, _, _, _, _, _, _, _, _, _, _, _, _, _, _, _, _, _, _, _, rfl, _⟩ := h; rfl) | (obtain ⟨_, _, _, _, _, _, _, _, _, _, _, _, _, _, _, _, _, _, _, _, _, _, _, _, _, _, _, _, _, rfl, _⟩ := h; rfl) | (obtain ⟨_, _, _, _, _, _, _, _, _, _, _, _, _, _, _, _, _, _, _, _, _, _, _, _, _, _, _, _, _, _, rfl, _⟩ := h; rfl) | (obtain ⟨_, _, _, _, _, _, _, _, _, _, _, _, _, _, _, _, _, _, _, _, _, _, _, _, _, _, _, _, _, _, _, rfl, _⟩ := h; rfl)) (fun cdv A' outer s H vs Q E hr h => ⟨t_take K A (fun cls d _ H => E cls d H), ?_, rd_take h⟩)
  unfold t_take
  exact (pss_cons (p_if (m_test (pt_cmpR o_gt (pe_op o_add (pe_call (ok_used T) (hr.mono (by decide)) (by rfl) T.m_used T.F_used.kp T.b_used .nil pass0 (pa_cons (pn 0) pa_nil)) (pe_op o_mul (pn 1) (pe_glob (by rfl) T.m_UNIT.choose_spec ⟨_, rfl⟩))) (pe_callB c_len (by rfl) T.n_len (by decide +kernel) (pa_cons (pn 0) pa_nil)) (nomark _)))
    (pss_one (p_raise0 rfl (takes_of rfl rfl rfl rfl) PySem.F.excBase_ValueError T.x_Full T.m_Full T.k_Full T.bb_Full T.tt_Full (by rfl)))
    pss_nil)
  (pss_cons (ps_set (i := 5) sc_take.nd rfl (Or.inl rfl) (pe_call (ok_free_place T) (hr.mono (by decide)) (by rfl) T.m_free_place T.F_free_place.kp T.b_free_place .nil pass0 (pa_cons (pn 0) (pa_cons (pn 1) pa_nil))))
  (p_cut (p_if (m_test (pt_cmpR o_isN (pn 5) pe_non (nomark _)))
    (pss_cons (ps_expr (pe_call (ok_push_together T) (hr.mono (by decide)) (by rfl) T.m_push_together T.F_push_together.kp T.b_push_together .nil pass0 (pa_cons (pn 0) pa_nil)))
  (pss_one (ps_set (i := 5) sc_take.nd rfl (Or.inl rfl) (pe_call (ok_free_place T) (hr.mono (by decide)) (by rfl) T.m_free_place T.F_free_place.kp T.b_free_place .nil pass0 (pa_cons (pn 0) (pa_cons (pn 1) pa_nil))))))
    pss_nil)
  (pss_cons (ps_set (i := 6) sc_take.nd rfl (Or.inl rfl) (pe_op o_sub (pe_call (ok_read_word T) (hr.mono (by decide)) (by rfl) T.m_read_word T.F_read_word.kp T.b_read_word .nil pass0 (pa_cons (pn 0) (pa_cons (pn 5) (pa_cons pe_int pa_nil)))) (pn 1)))
  (p_cut (p_if (m_test (pt_cmpR o_gt (pn 6) pe_int (nomark _)))
    (pss_one (ps_expr (pe_call (ok_put_free T) (hr.mono (by decide)) (by rfl) T.m_put_free T.F_put_free.kp T.b_put_free .nil pass0 (pa_cons (pn 0) (pa_cons (pe_op o_add (pn 5) (pe_op o_mul (pn 1) (pe_glob (by rfl) T.m_UNIT.choose_spec ⟨_, rfl⟩))) (pa_cons (pn 6) pa_nil))))))
    pss_nil)
  (pss_cons (ps_expr (pe_call (ok_write_word T) (hr.mono (by decide)) (by rfl) T.m_write_word T.F_write_word.kp T.b_write_word .nil pass0 (pa_cons (pn 0) (pa_cons (pn 5) (pa_cons pe_int (pa_cons (pn 1) pa_nil))))))
  (pss_cons (ps_asg (pn 2) (pg_sub (pn 0) (pe_op o_add (pn 5) pe_int) set_list))
  (pss_cons (ps_asg (pn 3) (pg_sub (pn 0) (pe_op o_add (pn 5) pe_int) set_list))
  (pss_cons (ps_expr (pe_call (ok_write_word T) (hr.mono (by decide)) (by rfl) T.m_write_word T.F_write_word.kp T.b_write_word .nil pass0 (pa_cons (pn 0) (pa_cons (pe_op o_add (pn 5) pe_int) (pa_cons pe_int (pa_cons (pn 4) pa_nil))))))
  (pss_one (ps_ret (pn 5))))))))))))
theorem ok_give_back (T : Top K mg A W) : FnOk P w K mg base CX0 5 W.a_give_back W.d_give_back ["data", "offset"] (sp_give_back K A) := by
  refine T.F_give_back.ok sc_give_back (fun vs H Q E h => by first | (obtain ⟨rfl, _⟩ := h; rfl) | (obtain ⟨_, rfl, _⟩ := h; rfl) | (obtain ⟨_, _, rfl, _⟩ := h; rfl) | (obtain ⟨_, _, _, rfl, _⟩ := h; rfl) | (obtain ⟨_, _, _, _, rfl, _⟩ := h; rfl) | (obtain ⟨_, _, _, _, _, rfl, _⟩ := h; rfl) | (obtain ⟨_, _, _, _, _, _, rfl, _⟩ := h; rfl) | (obtain ⟨_, _, _, _, _, _, _, rfl, _⟩ := h; rfl) | (obtain ⟨_, _, _, _, _, _, _, _, rfl, _⟩ := h; rfl) | (obtain ⟨_, _, _, _, _, _, _, _, _, rfl, _⟩ := h; rfl) | (obtain ⟨_, _, _, _, _, _, _, _, _, _, rfl, _⟩ := h; rfl) | (obtain ⟨_, _, _, _, _, _, _, _, _, _, _, rfl, _⟩ := h; rfl) | (obtain ⟨_, _, _, _, _, _, _, _, _, _, _, _, rfl, _⟩ := h; rfl) | (obtain ⟨_, _, _, _, _, _, _, _, _, _, _, _, _, rfl, _⟩ := h; rfl) | (obtain ⟨_, _, _, _, _, _, _, _, _, _, _, _, _, _, rfl, _⟩ := h; rfl) | (obtain ⟨_, _, _, _, _, _, _, _, _, _, _, _, _, _, _, rfl, _⟩ := h; rfl) | (obtain ⟨_, _, _, _, _, _, _, _, _, _, _, _, _, _, _, _, rfl, _⟩ := h; rfl) | (obtain ⟨_, _, _, _, _, _, _, _, _, _, _, _, _, _, _, _, _, rfl, _⟩ := h; rfl) | (obtain ⟨_, _, _, _, _, _, _, _, _, _, _, _, _, _, _, _, _, _, rfl, _⟩ := h; rfl) | (obtain ⟨_, _, _, _, _, _, _, _, _, _, _, _, _, _, _, _, _, _, _, rfl, _⟩ := h; rfl) | (obtain ⟨_, _, _, _, _, _, _, _, _, _, _, _, _, _, _, _, _, _, _, _, rfl, _⟩ := h; rfl) | (obtain ⟨_, _, _, _, _, _, _, _, _, _, _, _, _, _, _, _, _, _, _, _, _, rfl, _⟩ := h; rfl) | (obtain ⟨_, _, _, _, _, _, _, _, _, _, _, _, _, _, _, _, _, _, _, _, _, _, rfl, _⟩ := h; rfl) | (obtain ⟨_, _, _, _, _, _, _, _, _, _, _, _, _, _, _, _, _, _, _, _, _, _, _, rfl, _⟩ := h; rfl) | (obtain ⟨_, _, _, _, _, _, _, _, _, _, _, _, _, _, _, _, _, _, _, _, _, _, _, _, rfl, _⟩ := h; rfl) | (obtain ⟨_, _, _, _, _, _, _, _, _, _, _, _, _, _, _, _, _, _, _, _, _, _, _, _, _, rfl, _⟩ := h; rfl) | (obtain ⟨_, _, _, _, _, _, _, _, _, _, _, _, _, _, _, _, _, _, _, _, _, _, _, _, _, _, rfl, _⟩ := h; rfl) | (obtain ⟨_, _, _, _, _, _, _, _, _, _, _, _, _, _, _, _, _, _, _, _, _, _, _, _, _, _, _, rfl, _⟩ := h; rfl) | (obtain ⟨_, _, _, _, _, _, _, _, _, _, _, _, _, _, _, _, _, _, _, _, _, _, _, _, _, _, _, _, rfl, _⟩ := h; rfl) | (obtain ⟨_, _, _, _, _, _, _, _, _, _, _, _, _, _, _, _, _, _, _, _, _, _, _, _, _, _, _, _, _, rfl, _⟩ := h; rfl) | (obtain ⟨_, _, _, _, _, _, _, _, _, _, _, _, _, _, _, _, _, _, _, _, _, _, _, _, _, _, _, _, _, _, rfl, _⟩ := h; rfl) | (obtain ⟨_, _, _, _, _, _, _, _, _, _, _, _, _, _, _, _, _, _, _, _, _, _, _, _, _, _, _, _, _, _, _, rfl, _⟩ := h; rfl)) (fun cdv A' outer s H vs Q E hr h => ⟨t_give_back K A, ?_, rd_give_back h⟩)
  unfold t_give_back
  exact (pss_cons (ps_expr (pe_call (ok_put_free T) (hr.mono (by decide)) (by rfl) T.m_put_free T.F_put_free.kp T.b_put_free .nil pass0 (pa_cons (pn 0) (pa_cons (pn 1) (pa_cons (pe_call (ok_read_word T) (hr.mono (by decide)) (by rfl) T.m_read_word T.F_read_word.kp T.b_read_word .nil pass0 (pa_cons (pn 0) (pa_cons (pn 1) (pa_cons pe_int pa_nil)))) pa_nil)))))
  (pss_one (ps_expr (pe_call (ok_join_free T) (hr.mono (by decide)) (by rfl) T.m_join_free T.F_join_free.kp T.b_join_free .nil pass0 (pa_cons (pn 0) pa_nil)))))
theorem ok_grow (T : Top K mg A W) : FnOk P w K mg base CX0 5 W.a_grow W.d_grow ["data", "size"] (sp_grow K A) := by
  refine T.F_grow.ok sc_grow (fun vs H Q E h => by first | (obtain ⟨rfl, _⟩ := h; rfl) | (obtain ⟨_, rfl, _⟩ := h; rfl) | (obtain ⟨_, _, rfl, _⟩ := h; rfl) | (obtain ⟨_, _, _, rfl, _⟩ := h; rfl) | (obtain ⟨_, _, _, _, rfl, _⟩ := h; rfl) | (obtain ⟨_, _, _, _, _, rfl, _⟩ := h; rfl) | (obtain ⟨_, _, _, _, _, _, rfl, _⟩ := h; rfl) | (obtain ⟨_, _, _, _, _, _, _, rfl, _⟩ := h; rfl) | (obtain ⟨_, _, _, _, _, _, _, _, rfl, _⟩ := h; rfl) | (obtain ⟨_, _, _, _, _, _, _, _, _, rfl, _⟩ := h; rfl) | (obtain ⟨_, _, _, _, _, _, _, _, _, _, rfl, _⟩ := h; rfl) | (obtain ⟨_, _, _, _, _, _, _, _, _, _, _, rfl, _⟩ := h; rfl) | (obtain ⟨_, _, _, _, _, _, _, _, _, _, _, _, rfl, _⟩ := h; rfl) | (obtain ⟨_, _, _, _, _, _, _, _, _, _, _, _, _, rfl, _⟩ := h; rfl) | (obtain ⟨_, _, _, _, _, _, _, _, _, _, _, _, _, _, rfl, _⟩ := h; rfl) | (obtain ⟨_, _, _, _, _, _, _, _, _, _, _, _, _, _, _, rfl, _⟩ := h; rfl) | (obtain ⟨_, _, _, _, _, _, _, _, _, _, _, _, _, _, _, _, rfl, _⟩ := h; rfl) | (obtain ⟨_, _, _, _, _, _, _, _, _, _, _, _, _, _, _, _, _, rfl, _⟩ := h; rfl) | (obtain ⟨_, _, _, _, _, _, _, _, _, _, _, _, _, _, _, _, _, _, rfl, _⟩ := h; rfl) | (obtain ⟨_, _, _, _, _, _, _, _, _, _, _, _, _, _, _, _, _, _, _, rfl, _⟩ := h; rfl) | (obtain ⟨_, _, _, _, _, _, _, _, _, _, _, _, _, _, _, _, _, _, _, _, rfl, _⟩ := h; rfl) | (obtain ⟨_, _, _, _, _, _, _, _, _, _, _, _, _, _, _, _, _, _, _, _, _, rfl, _⟩ := h; rfl) | (obtain ⟨_, _, _, _, _, _, _, _, _, _, _, _, _, _, _, _, _, _, _, _, _, _, rfl, _⟩ := h; rfl) | (obtain ⟨_, _, _, _, _, _, _, _, _, _, _, _, _, _, _, _, _, _, _, _, _, _, _, rfl, _⟩ := h; rfl) | (obtain ⟨_, _, _, _, _, _, _, _, _, _, _, _, _, _, _, _, _, _, _, _, _, _, _, _, rfl, _⟩ := h; rfl) | (obtain ⟨_, _, _, _, _, _, _, _, _, _, _, _, _, _, _, _, _, _, _, _, _, _, _, _, _, rfl, _⟩ := h; rfl) | (obtain ⟨_, _, _, _, _, _, _, _, _, _, _, _, _, _, _, _, _, _, _, _, _, _, _, _, _, _, rfl, _⟩ := h; rfl) | (obtain ⟨_, _, _, _, _, _, _, _, _, _, _, _, _, _, _, _, _, _, _, _, _, _, _, _, _, _, _, rfl, _⟩ := h; rfl) | (obtain ⟨_, _, _, _, _, _, _, _, _, _, _, _, _, _, _, _, _, _, _, _, _, _, _, _, _, _, _, _, rfl, _⟩ := h; rfl) | (obtain ⟨_, _, _, _, _, _, _, _, _, _, _, _, _, _, _, _, _, _, _, _, _, _, _, _, _, _, _, _, _, rfl, _⟩ := h; rfl) | (obtain ⟨_, _, _, _, _, _, _, _, _, _, _, _, _, _, _, _, _, _, _, _, _, _, _, _, _, _, _, _, _, _, rfl, _⟩ := h; rfl) | (obtain ⟨_, _, _, _, _, _, _, _, _, _, _, _, _, _, _, _, _, _, _, _, _, _, _, _, _, _, _, _, _, _, _, rfl, _⟩ := h; rfl)) (fun cdv A' outer s H vs Q E hr h => ⟨t_grow K A, ?_, rd_grow h⟩)
  unfold t_grow
  exact (pss_cons (ps_set (i := 2) sc_grow.nd rfl (Or.inl rfl) (pe_callB c_len (by rfl) T.n_len (by decide +kernel) (pa_cons (pn 0) pa_nil)))
  (pss_cons (ps_expr (pe_bm PySem.F.plainAttrs_list PySem.F.slot_list_extend PySem.F.type_list_extend mt_extend (pn 0) (pa_cons (pe_op o_mul (pe_lst (pa_cons pe_int pa_nil)) (pe_op o_sub (pn 1) (pn 2))) pa_nil)))
  (pss_cons (ps_expr (pe_call (ok_put_free T) (hr.mono (by decide)) (by rfl) T.m_put_free T.F_put_free.kp T.b_put_free .nil pass0 (pa_cons (pn 0) (pa_cons (pn 2) (pa_cons (pe_op o_fdiv (pe_op o_sub (pn 1) (pn 2)) (pe_glob (by rfl) T.m_UNIT.choose_spec ⟨_, rfl⟩)) pa_nil)))))
  (pss_one (ps_expr (pe_call (ok_join_free T) (hr.mono (by decide)) (by rfl) T.m_join_free T.F_join_free.kp T.b_join_free .nil pass0 (pa_cons (pn 0) pa_nil)))))))
theorem ok_find_block (T : Top K mg A W) : FnOk P w K mg base CX0 4 W.a_find_block W.d_find_block ["data", "number", "version"] (sp_find_block K A) := by
  refine T.F_find_block.ok sc_find_block (fun vs H Q E h => by first | (obtain ⟨rfl, _⟩ := h; rfl) | (obtain ⟨_, rfl, _⟩ := h; rfl) | (obtain ⟨_, _, rfl, _⟩ := h; rfl) | (obtain ⟨_, _, _, rfl, _⟩ := h; rfl) | (obtain ⟨_, _, _, _, rfl, _⟩ := h; rfl) | (obtain ⟨_, _, _, _, _, rfl, _⟩ := h; rfl) | (obtain ⟨_, _, _, _, _, _, rfl, _⟩ := h; rfl) | (obtain ⟨_, _, _, _, _, _, _, rfl, _⟩ := h; rfl) | (obtain ⟨_, _, _, _, _, _, _, _, rfl, _⟩ := h; rfl) | (obtain ⟨_, _, _, _, _, _, _, _, _, rfl, _⟩ := h; rfl) | (obtain ⟨_, _, _, _, _, _, _, _, _, _, rfl, _⟩ := h; rfl) | (obtain ⟨_, _, _, _, _, _, _, _, _, _, _, rfl, _⟩ := h; rfl) | (obtain ⟨_, _, _, _, _, _, _, _, _, _, _, _, rfl, _⟩ := h; rfl) | (obtain ⟨_, _, _, _, _, _, _, _, _, _, _, _, _, rfl, _⟩ := h; rfl) | (obtain ⟨_, _, _, _, _, _, _, _, _, _, _, _, _, _, rfl, _⟩ := h; rfl) | (obtain ⟨_, _, _, _, _, _, _, _, _, _, _, _, _, _, _, rfl, _⟩ := h; rfl) | (obtain ⟨_, _, _, _, _, _, _, _, _, _, _, _, _, _, _, _, rfl, _⟩ := h; rfl) | (obtain ⟨_, _, _, _, _, _, _, _, _, _, _, _, _, _, _, _, _, rfl, _⟩ := h; rfl) | (obtain ⟨_, _, _, _, _, _, _, _, _, _, _, _, _, _, _, _, _, _, rfl, _⟩ := h; rfl) | (obtain ⟨_, _, _, _, _, _, _, _, _, _, _, _, _, _, _, _, _, _, _, rfl, _⟩ := h; rfl) | (obtain ⟨_, _, _, _, _, _, _, _, _, _, _, _, _, _, _, _, _, _, _, _, rfl, _⟩ := h; rfl) | (obtain ⟨_, _, _, _, _, _, _, _, _, _, _, _, _, _, _, _, _, _, _, _, _, rfl, _⟩ := h; rfl) | (obtain ⟨_, _, _, _, _, _, _, _, _, _, _, _, _, _, _, _, _, _, _, _, _, _, rfl, _⟩ := h; rfl) | (obtain ⟨_, _, _, _, _, _, _, _, _, _, _, _, _, _, _, _, _, _, _, _, _, _, _, rfl, _⟩ := h; rfl) | (obtain ⟨_, _, _, _, _, _, _, _, _, _, _, _, _, _, _, _, _, _, _, _, _, _, _, _, rfl, _⟩ := h; rfl) | (obtain ⟨_, _, _, _, _, _, _, _, _, _, _, _, _, _, _, _, _, _, _, _, _, _, _, _, _, rfl, _⟩ := h; rfl) | (obtain ⟨_, _, _, _, _, _, _, _, _, _, _, _, _, _, _, _, _, _, _, _, _, _, _, _, _, _, rfl, _⟩ := h; rfl) | (obtain ⟨_, _, _, _, _, _, _, _, _, _, _, _, _, _, _, _, _, _, _, _, _, _, _, _, _, _, _, rfl, _⟩ := h; rfl) | (obtain ⟨_, _, _, _, _, _, _, _, _, _, _, _, _, _, _, _, _, _, _, _, _, _, _, _, _, _, _, _, rfl, _⟩ := h; rfl) | (obtain ⟨_, _, _, _, _, _, _, _, _, _, _, _, _, _, _, _, _, _, _, _, _, _, _, _, _, _, _, _, _, rfl, _⟩ := h; rfl) | (obtain ⟨_, _, _, _, _, _, _, _, _, _, _, _, _, _, _, _, _, _, _, _, _, _, _, _, _, _, _, _, _, _, rfl, _⟩ := h; rfl) | (obtain ⟨_, _, _, _, _, _, _, _, _, _, _, _, _, _, _, _, _, _, _, _, _, _, _, _, _, _, _, _, _, _, _, rfl, _⟩ := h; rfl)) (fun cdv A' outer s H vs Q E hr h => ⟨t_find_block K A, ?_, rd_find_block h⟩)
  unfold t_find_block
  exact (pss_cons (ps_for PassesOwn.never rfl (i_list (pi_list (pe_call (ok_offsets T) (hr.mono (by decide)) (by rfl) T.m_offsets T.F_offsets.kp T.b_offsets .nil pass0 (pa_cons (pn 0) pa_nil)))) (pg_name (i := 3) sc_find_block.nd rfl (Or.inl rfl))
    (pss_one (p_if (PW.pt (pw_and (pt_not (p_truth (pe_call (ok_is_free T) (hr.mono (by decide)) (by rfl) T.m_is_free T.F_is_free.kp T.b_is_free .nil pass0 (pa_cons (pn 0) (pa_cons (pn 3) pa_nil))) (by intro _; rfl))) (pw_and1 (m_test (pt_cmpR (o_eq hr.units) (pe_call (ok_read_word T) (hr.mono (by decide)) (by rfl) T.m_read_word T.F_read_word.kp T.b_read_word .nil pass0 (pa_cons (pn 0) (pa_cons (pe_op o_add (pn 3) pe_int) (pa_cons pe_int pa_nil)))) (pn 1) (nomark _))))))
    (pss_cons (ps_set (i := 4) sc_find_block.nd rfl (Or.inl rfl) (pe_ix ix_seq (pn 0) (pe_op o_add (pn 3) pe_int) (fun _ _ => rfl)))
  (pss_one (p_if (PW.pt (pw_or (m_test (pt_cmpR (o_eq hr.units) (pn 4) (pn 2) (nomark _))) (pw_or1 (PW.pt (pw_and (m_test (pt_cmpR o_isN (pn 2) pe_non (nomark _))) (pw_and1 (m_test (pt_cmpR o_lt (pn 4) (pe_glob (by rfl) T.m_LIST_MARK.choose_spec ⟨_, rfl⟩) (nomark _)))))))))
    (pss_one (ps_ret (pn 3)))
    pss_nil)))
    pss_nil)))
  (pss_one (ps_ret pe_non)))
theorem ok__law_cell (T : Top K mg A W) : FnOk P w K mg base CX0 1 W.a__law_cell W.d__law_cell ["_law_script", "_law_k"] (sp__law_cell K A) := by
  refine T.F__law_cell.ok sc__law_cell (fun vs H Q E h => by first | (obtain ⟨rfl, _⟩ := h; rfl) | (obtain ⟨_, rfl, _⟩ := h; rfl) | (obtain ⟨_, _, rfl, _⟩ := h; rfl) | (obtain ⟨_, _, _, rfl, _⟩ := h; rfl) | (obtain ⟨_, _, _, _, rfl, _⟩ := h; rfl) | (obtain ⟨_, _, _, _, _, rfl, _⟩ := h; rfl) | (obtain ⟨_, _, _, _, _, _, rfl, _⟩ := h; rfl) | (obtain ⟨_, _, _, _, _, _, _, rfl, _⟩ := h; rfl) | (obtain ⟨_, _, _, _, _, _, _, _, rfl, _⟩ := h; rfl) | (obtain ⟨_, _, _, _, _, _, _, _, _, rfl, _⟩ := h; rfl) | (obtain ⟨_, _, _, _, _, _, _, _, _, _, rfl, _⟩ := h; rfl) | (obtain ⟨_, _, _, _, _, _, _, _, _, _, _, rfl, _⟩ := h; rfl) | (obtain ⟨_, _, _, _, _, _, _, _, _, _, _, _, rfl, _⟩ := h; rfl) | (obtain ⟨_, _, _, _, _, _, _, _, _, _, _, _, _, rfl, _⟩ := h; rfl) | (obtain ⟨_, _, _, _, _, _, _, _, _, _, _, _, _, _, rfl, _⟩ := h; rfl) | (obtain ⟨_, _, _, _, _, _, _, _, _, _, _, _, _, _, _, rfl, _⟩ := h; rfl) | (obtain ⟨_, _, _, _, _, _, _, _, _, _, _, _, _, _, _, _, rfl, _⟩ := h; rfl) | (obtain ⟨_, _, _, _, _, _, _, _, _, _, _, _, _, _, _, _, _, rfl, _⟩ := h; rfl) | (obtain ⟨_, _, _, _, _, _, _, _, _, _, _, _, _, _, _, _, _, _, rfl, _⟩ := h; rfl) | (obtain ⟨_, _, _, _, _, _, _, _, _, _, _, _, _, _, _, _, _, _, _, rfl, _⟩ := h; rfl) | (obtain ⟨_, _, _, _, _, _, _, _, _, _, _, _, _, _, _, _, _, _, _, _, rfl, _⟩ := h; rfl) | (obtain ⟨_, _, _, _, _, _, _, _, _, _, _, _, _, _, _, _, _, _, _, _, _, rfl, _⟩ := h; rfl) | (obtain ⟨_, _, _, _, _, _, _, _, _, _, _, _, _, _, _, _, _, _, _, _, _, _, rfl, _⟩ := h; rfl) | (obtain ⟨_, _, _, _, _, _, _, _, _, _, _, _, _, _, _, _, _, _, _, _, _, _, _, rfl, _⟩ := h; rfl) | (obtain ⟨_, _, _, _, _, _, _, _, _, _, _, _, _, _, _, _, _, _, _, _, _, _, _, _, rfl, _⟩ := h; rfl) | (obtain ⟨_, _, _, _, _, _, _, _, _, _, _, _, _, _, _, _, _, _, _, _, _, _, _, _, _, rfl, _⟩ := h; rfl) | (obtain ⟨_, _, _, _, _, _, _, _, _, _, _, _, _, _, _, _, _, _, _, _, _, _, _, _, _, _, rfl, _⟩ := h; rfl) | (obtain ⟨_, _, _, _, _, _, _, _, _, _, _, _, _, _, _, _, _, _, _, _, _, _, _, _, _, _, _, rfl, _⟩ := h; rfl) | (obtain ⟨_, _, _, _, _, _, _, _, _, _, _, _, _, _, _, _, _, _, _, _, _, _, _, _, _, _, _, _, rfl, _⟩ := h; rfl) | (obtain ⟨_, _, _, _, _, _, _, _, _, _, _, _, _, _, _, _, _, _, _, _, _, _, _, _, _, _, _, _, _, rfl, _⟩ := h; rfl) | (obtain ⟨_, _, _, _, _, _, _, _, _, _, _, _, _, _, _, _, _, _, _, _, _, _, _, _, _, _, _, _, _, _, rfl, _⟩ := h; rfl) | (obtain ⟨_, _, _, _, _, _, _, _, _, _, _, _, _, _, _, _, _, _, _, _, _, _, _, _, _, _, _, _, _, _, _, rfl, _⟩ := h; rfl)) (fun cdv A' outer s H vs Q E hr h => ⟨t__law_cell K A, ?_, rd__law_cell h⟩)
  unfold t__law_cell
  exact (pss_cons (p_if (m_test (pt_cmpR o_lt (pn 1) (pe_callB c_len (by rfl) T.n_len (by decide +kernel) (pa_cons (pn 0) pa_nil)) (nomark _)))
    (pss_one (ps_ret (pe_ix ix_seq (pn 0) (pn 1) (fun _ _ => rfl))))
    pss_nil)
  (pss_one (ps_ret pe_int)))
theorem ok__law_list_is (T : Top K mg A W) : FnG P w K mg base 1 W.a__law_list_is W.d__law_list_is ["_law_actual", "_law_due"] (sp__law_list_is K A) := by
  refine okG T.F__law_list_is sc__law_list_is (fun vs H Q E h => by first | (obtain ⟨rfl, _⟩ := h; rfl) | (obtain ⟨_, rfl, _⟩ := h; rfl) | (obtain ⟨_, _, rfl, _⟩ := h; rfl) | (obtain ⟨_, _, _, rfl, _⟩ := h; rfl) | (obtain ⟨_, _, _, _, rfl, _⟩ := h; rfl) | (obtain ⟨_, _, _, _, _, rfl, _⟩ := h; rfl) | (obtain ⟨_, _, _, _, _, _, rfl, _⟩ := h; rfl) | (obtain ⟨_, _, _, _, _, _, _, rfl, _⟩ := h; rfl) | (obtain ⟨_, _, _, _, _, _, _, _, rfl, _⟩ := h; rfl) | (obtain ⟨_, _, _, _, _, _, _, _, _, rfl, _⟩ := h; rfl) | (obtain ⟨_, _, _, _, _, _, _, _, _, _, rfl, _⟩ := h; rfl) | (obtain ⟨_, _, _, _, _, _, _, _, _, _, _, rfl, _⟩ := h; rfl) | (obtain ⟨_, _, _, _, _, _, _, _, _, _, _, _, rfl, _⟩ := h; rfl) | (obtain ⟨_, _, _, _, _, _, _, _, _, _, _, _, _, rfl, _⟩ := h; rfl) | (obtain ⟨_, _, _, _, _, _, _, _, _, _, _, _, _, _, rfl, _⟩ := h; rfl) | (obtain ⟨_, _, _, _, _, _, _, _, _, _, _, _, _, _, _, rfl, _⟩ := h; rfl) | (obtain ⟨_, _, _, _, _, _, _, _, _, _, _, _, _, _, _, _, rfl, _⟩ := h; rfl) | (obtain ⟨_, _, _, _, _, _, _, _, _, _, _, _, _, _, _, _, _, rfl, _⟩ := h; rfl) | (obtain ⟨_, _, _, _, _, _, _, _, _, _, _, _, _, _, _, _, _, _, rfl, _⟩ := h; rfl) | (obtain ⟨_, _, _, _, _, _, _, _, _, _, _, _, _, _, _, _, _, _, _, rfl, _⟩ := h; rfl) | (obtain ⟨_, _, _, _, _, _, _, _, _, _, _, _, _, _, _, _, _, _, _, _, rfl, _⟩ := h; rfl) | (obtain ⟨_, _, _, _, _, _, _, _, _, _, _, _, _, _, _, _, _, _, _, _, _, rfl, _⟩ := h; rfl) | (obtain ⟨_, _, _, _, _, _, _, _, _, _, _, _, _, _, _, _, _, _, _, _, _, _, rfl, _⟩ := h; rfl) | (obtain ⟨_, _, _, _, _, _, _, _, _, _, _, _, _, _, _, _, _, _, _, _, _, _, _, rfl, _⟩ := h; rfl) | (obtain ⟨_, _, _, _, _, _, _, _, _, _, _, _, _, _, _, _, _, _, _, _, _, _, _, _, rfl, _⟩ := h; rfl) | (obtain ⟨_, _, _, _, _, _, _, _, _, _, _, _, _, _, _, _, _, _, _, _, _, _, _, _, _, rfl, _⟩ := h; rfl) | (obtain ⟨_, _, _, _, _, _, _, _, _, _, _, _, _, _, _, _, _, _, _, _, _, _, _, _, _, _, rfl, _⟩ := h; rfl) | (obtain ⟨_, _, _, _, _, _, _, _, _, _, _, _, _, _, _, _, _, _, _, _, _, _, _, _, _, _, _, rfl, _⟩ := h; rfl) | (obtain ⟨_, _, _, _, _, _, _, _, _, _, _, _, _, _, _, _, _, _, _, _, _, _, _, _, _, _, _, _, rfl, _⟩ := h; rfl) | (obtain ⟨_, _, _, _, _, _, _, _, _, _, _, _, _, _, _, _, _, _, _, _, _, _, _, _, _, _, _, _, _, rfl, _⟩ := h; rfl) | (obtain ⟨_, _, _, _, _, _, _, _, _, _, _, _, _, _, _, _, _, _, _, _, _, _, _, _, _, _, _, _, _, _, rfl, _⟩ := h; rfl) | (obtain ⟨_, _, _, _, _, _, _, _, _, _, _, _, _, _, _, _, _, _, _, _, _, _, _, _, _, _, _, _, _, _, _, rfl, _⟩ := h; rfl)) (fun cdv A' outer s H vs Q E hr hg h => ⟨t__law_list_is K A, ?_, rd__law_list_is h⟩)
  unfold t__law_list_is
  exact (pss_one (ps_ret (p_and (pe_callB c_isi (by rfl) T.n_isinstance (by decide +kernel) (pa_cons (pn 0) (pa_cons (pe_bltn (by rfl) T.n_list (by decide +kernel) rfl) pa_nil))) (pe_one (pe_cmpR (o_eq hr.units) (pe_callB (c_repr hg hr.units) (by rfl) T.n_repr (by decide +kernel) (pa_cons (pn 0) pa_nil)) (pe_callB (c_repr hg hr.units) (by rfl) T.n_repr (by decide +kernel) (pa_cons (pe_callTy c_list (by rfl) T.n_list (by decide +kernel) (pa_cons (pn 1) pa_nil)) pa_nil)) (nomark _))))))
theorem ok__law_same (T : Top K mg A W) : FnG P w K mg base 1 W.a__law_same W.d__law_same ["_law_actual", "_law_due"] (sp__law_same K A) := by
  refine okG T.F__law_same sc__law_same (fun vs H Q E h => by first | (obtain ⟨rfl, _⟩ := h; rfl) | (obtain ⟨_, rfl, _⟩ := h; rfl) | (obtain ⟨_, _, rfl, _⟩ := h; rfl) | (obtain ⟨_, _, _, rfl, _⟩ := h; rfl) | (obtain ⟨_, _, _, _, rfl, _⟩ := h; rfl) | (obtain ⟨_, _, _, _, _, rfl, _⟩ := h; rfl) | (obtain ⟨_, _, _, _, _, _, rfl, _⟩ := h; rfl) | (obtain ⟨_, _, _, _, _, _, _, rfl, _⟩ := h; rfl) | (obtain ⟨_, _, _, _, _, _, _, _, rfl, _⟩ := h; rfl) | (obtain ⟨_, _, _, _, _, _, _, _, _, rfl, _⟩ := h; rfl) | (obtain ⟨_, _, _, _, _, _, _, _, _, _, rfl, _⟩ := h; rfl) | (obtain ⟨_, _, _, _, _, _, _, _, _, _, _, rfl, _⟩ := h; rfl) | (obtain ⟨_, _, _, _, _, _, _, _, _, _, _, _, rfl, _⟩ := h; rfl) | (obtain ⟨_, _, _, _, _, _, _, _, _, _, _, _, _, rfl, _⟩ := h; rfl) | (obtain ⟨_, _, _, _, _, _, _, _, _, _, _, _, _, _, rfl, _⟩ := h; rfl) | (obtain ⟨_, _, _, _, _, _, _, _, _, _, _, _, _, _, _, rfl, _⟩ := h; rfl) | (obtain ⟨_, _, _, _, _, _, _, _, _, _, _, _, _, _, _, _, rfl, _⟩ := h; rfl) | (obtain ⟨_, _, _, _, _, _, _, _, _, _, _, _, _, _, _, _, _, rfl, _⟩ := h; rfl) | (obtain ⟨_, _, _, _, _, _, _, _, _, _, _, _, _, _, _, _, _, _, rfl, _⟩ := h; rfl) | (obtain ⟨_, _, _, _, _, _, _, _, _, _, _, _, _, _, _, _, _, _, _, rfl, _⟩ := h; rfl) | (obtain ⟨_, _, _, _, _, _, _, _, _, _, _, _, _, _, _, _, _, _, _, _, rfl, _⟩ := h; rfl) | (obtain ⟨_, _, _, _, _, _, _, _, _, _, _, _, _, _, _, _, _, _, _, _, _, rfl, _⟩ := h; rfl) | (obtain ⟨_, _, _, _, _, _, _, _, _, _, _, _, _, _, _, _, _, _, _, _, _, _, rfl, _⟩ := h; rfl) | (obtain ⟨_, _, _, _, _, _, _, _, _, _, _, _, _, _, _, _, _, _, _, _, _, _, _, rfl, _⟩ := h; rfl) | (obtain ⟨_, _, _, _, _, _, _, _, _, _, _, _, _, _, _, _, _, _, _, _, _, _, _, _, rfl, _⟩ := h; rfl) | (obtain ⟨_, _, _, _, _, _, _, _, _, _, _, _, _, _, _, _, _, _, _, _, _, _, _, _, _, rfl, _⟩ := h; rfl) | (obtain ⟨_, _, _, _, _, _, _, _, _, _, _, _, _, _, _, _, _, _, _, _, _, _, _, _, _, _, rfl, _⟩ := h; rfl) | (obtain ⟨_, _, _, _, _, _, _, _, _, _, _, _, _, _, _, _, _, _, _, _, _, _, _, _, _, _, _, rfl, _⟩ := h; rfl) | (obtain ⟨_, _, _, _, _, _, _, _, _, _, _, _, _, _, _, _, _, _, _, _, _, _, _, _, _, _, _, _, rfl, _⟩ := h; rfl) | (obtain ⟨_, _, _, _, _, _, _, _, _, _, _, _, _, _, _, _, _, _, _, _, _, _, _, _, _, _, _, _, _, rfl, _⟩ := h; rfl) | (obtain ⟨_, _, _, _, _, _, _, _, _, _, _, _, _, _, _, _, _, _, _, _, _, _, _, _, _, _, _, _, _, _, rfl, _⟩ := h; rfl) | (obtain ⟨_, _, _, _, _, _, _, _, _, _, _, _, _, _, _, _, _, _, _, _, _, _, _, _, _, _, _, _, _, _, _, rfl, _⟩ := h; rfl)) (fun cdv A' outer s H vs Q E hr hg h => ⟨t__law_same K A, ?_, rd__law_same h⟩)
  unfold t__law_same
  exact (pss_one (ps_ret (pe_cmpR (o_eq hr.units) (pe_callB (c_repr hg hr.units) (by rfl) T.n_repr (by decide +kernel) (pa_cons (pn 0) pa_nil)) (pe_callB (c_repr hg hr.units) (by rfl) T.n_repr (by decide +kernel) (pa_cons (pn 1) pa_nil)) (nomark _))))
theorem ok__law_digits (T : Top K mg A W) : FnOk P w K mg base CX0 2 W.a__law_digits W.d__law_digits ["_law_script", "_law_first", "_law_last"] (sp__law_digits K A) := by
  refine T.F__law_digits.ok sc__law_digits (fun vs H Q E h => by first | (obtain ⟨rfl, _⟩ := h; rfl) | (obtain ⟨_, rfl, _⟩ := h; rfl) | (obtain ⟨_, _, rfl, _⟩ := h; rfl) | (obtain ⟨_, _, _, rfl, _⟩ := h; rfl) | (obtain ⟨_, _, _, _, rfl, _⟩ := h; rfl) | (obtain ⟨_, _, _, _, _, rfl, _⟩ := h; rfl) | (obtain ⟨_, _, _, _, _, _, rfl, _⟩ := h; rfl) | (obtain ⟨_, _, _, _, _, _, _, rfl, _⟩ := h; rfl) | (obtain ⟨_, _, _, _, _, _, _, _, rfl, _⟩ := h; rfl) | (obtain ⟨_, _, _, _, _, _, _, _, _, rfl, _⟩ := h; rfl) | (obtain ⟨_, _, _, _, _, _, _, _, _, _, rfl, _⟩ := h; rfl) | (obtain ⟨_, _, _, _, _, _, _, _, _, _, _, rfl, _⟩ := h; rfl) | (obtain ⟨_, _, _, _, _, _, _, _, _, _, _, _, rfl, _⟩ := h; rfl) | (obtain ⟨_, _, _, _, _, _, _, _, _, _, _, _, _, rfl, _⟩ := h; rfl) | (obtain ⟨_, _, _, _, _, _, _, _, _, _, _, _, _, _, rfl, _⟩ := h; rfl) | (obtain ⟨_, _, _, _, _, _, _, _, _, _, _, _, _, _, _, rfl, _⟩ := h; rfl) | (obtain ⟨_, _, _, _, _, _, _, _, _, _, _, _, _, _, _, _, rfl, _⟩ := h; rfl) | (obtain ⟨_, _, _, _, _, _, _, _, _, _, _, _, _, _, _, _, _, rfl, _⟩ := h; rfl) | (obtain ⟨_, _, _, _, _, _, _, _, _, _, _, _, _, _, _, _, _, _, rfl, _⟩ := h; rfl) | (obtain ⟨_, _, _, _, _, _, _, _, _, _, _, _, _, _, _, _, _, _, _, rfl, _⟩ := h; rfl) | (obtain ⟨_, _, _, _, _, _, _, _, _, _, _, _, _, _, _, _, _, _, _, _, rfl, _⟩ := h; rfl) | (obtain ⟨_, _, _, _, _, _, _, _, _, _, _, _, _, _, _, _, _, _, _, _, _, rfl, _⟩ := h; rfl) | (obtain ⟨_, _, _, _, _, _, _, _, _, _, _, _, _, _, _, _, _, _, _, _, _, _, rfl, _⟩ := h; rfl) | (obtain ⟨_, _, _, _, _, _, _, _, _, _, _, _, _, _, _, _, _, _, _, _, _, _, _, rfl, _⟩ := h; rfl) | (obtain ⟨_, _, _, _, _, _, _, _, _, _, _, _, _, _, _, _, _, _, _, _, _, _, _, _, rfl, _⟩ := h; rfl) | (obtain ⟨_, _, _, _, _, _, _, _, _, _, _, _, _, _, _, _, _, _, _, _, _, _, _, _, _, rfl, _⟩ := h; rfl) | (obtain ⟨_, _, _, _, _, _, _, _, _, _, _, _, _, _, _, _, _, _, _, _, _, _, _, _, _, _, rfl, _⟩ := h; rfl) | (obtain ⟨_, _, _, _, _, _, _, _, _, _, _, _, _, _, _, _, _, _, _, _, _, _, _, _, _, _, _, rfl, _⟩ := h; rfl) | (obtain ⟨_, _, _, _, _, _, _, _, _, _, _, _, _, _, _, _, _, _, _, _, _, _, _, _, _, _, _, _, rfl, _⟩ := h; rfl) | (obtain ⟨_, _, _, _, _, _, _, _, _, _, _, _, _, _, _, _, _, _, _, _, _, _, _, _, _, _, _, _, _, rfl, _⟩ := h; rfl) | (obtain ⟨_, _, _, _, _, _, _, _, _, _, _, _, _, _, _, _, _, _, _, _, _, _, _, _, _, _, _, _, _, _, rfl, _⟩ := h; rfl) | (obtain ⟨_, _, _, _, _, _, _, _, _, _, _, _, _, _, _, _, _, _, _, _, _, _, _, _, _, _, _, _, _, _, _, rfl, _⟩ := h; rfl)) (fun cdv A' outer s H vs Q E hr h => ⟨t__law_digits K A, ?_, rd__law_digits h⟩)
  unfold t__law_digits
  exact (pss_cons (ps_set (i := 3) sc__law_digits.nd rfl (Or.inl rfl) (pe_lst pa_nil))
  (pss_cons (ps_for PassesOwn.never rfl (i_rng2 (pi_range2 (by rfl) T.n_range (pa_cons (pn 1) (pa_cons (pn 2) pa_nil)))) (pg_name (i := 4) sc__law_digits.nd rfl (Or.inl rfl))
    (pss_cons (ps_set (i := 5) sc__law_digits.nd rfl (Or.inl rfl) (pe_call (ok__law_cell T) (hr.mono (by decide)) (by rfl) T.m__law_cell T.F__law_cell.kp T.b__law_cell .nil pass0 (pa_cons (pn 0) (pa_cons (pn 4) pa_nil))))
  (p_cut (p_if (m_test (pt_cmpR o_lt (pn 5) pe_int (nomark _)))
    (pss_one (ps_set (i := 5) sc__law_digits.nd rfl (Or.inl rfl) (pe_op o_sub pe_int (pe_op o_mul pe_int (pn 5)))))
    pss_nil)
  (pss_one (p_if (m_test (pt_cmpR o_ge (pn 5) (pe_op o_pow pe_int pe_int) (nomark _)))
    (pss_one (ps_for PassesOwn.never rfl (i_rng1 (pi_range1 (by rfl) T.n_range (pa_cons pe_int pa_nil))) (pg_name (i := 6) sc__law_digits.nd rfl (Or.inl rfl))
    (pss_one (p_if (m_test (pt_cmpR o_gt (pn 5) pe_int (nomark _)))
    (pss_cons (ps_expr (pe_bm PySem.F.plainAttrs_list PySem.F.slot_list_append PySem.F.type_list_append mt_append (pn 3) (pa_cons (pe_op o_mod (pe_callTy c_int (by rfl) T.n_int (by decide +kernel) (pa_cons (pn 5) pa_nil)) pe_int) pa_nil)))
  (pss_one (ps_set (i := 5) sc__law_digits.nd rfl (Or.inl rfl) (pe_op o_fdiv (pn 5) pe_int))))
    pss_nil))))
    (pss_cons (ps_set (i := 7) sc__law_digits.nd rfl (Or.inl rfl) (pe_op o_mod (pe_callTy c_int (by rfl) T.n_int (by decide +kernel) (pa_cons (pe_op o_add (pe_op o_add (pe_op o_mul (pn 5) pe_int) (pe_op o_mul (pn 4) pe_int)) pe_int) pa_nil)) pe_int))
  (pss_one (ps_for PassesOwn.never rfl (i_rng1 (pi_range1 (by rfl) T.n_range (pa_cons pe_int pa_nil))) (pg_name (i := 6) sc__law_digits.nd rfl (Or.inl rfl))
    (pss_cons (ps_set (i := 7) sc__law_digits.nd rfl (Or.inl rfl) (pe_op o_mod (pe_callTy c_int (by rfl) T.n_int (by decide +kernel) (pa_cons (pe_op o_add (pe_op o_add (pe_op o_mul (pn 7) pe_int) (pe_op o_mul pe_int (pn 6))) pe_int) pa_nil)) pe_int))
  (pss_one (ps_expr (pe_bm PySem.F.plainAttrs_list PySem.F.slot_list_append PySem.F.type_list_append mt_append (pn 3) (pa_cons (pe_op o_mod (pe_callTy c_int (by rfl) T.n_int (by decide +kernel) (pa_cons (pe_op o_fdiv (pn 7) pe_int) pa_nil)) pe_int) pa_nil)))))))))))))
  (pss_one (ps_ret (pn 3)))))
theorem ok__law_draw (T : Top K mg A W) : FnOk P w K mg base CX0 1 W.a__law_draw W.d__law_draw ["_law_box", "_law_many"] (sp__law_draw K A) := by
  refine T.F__law_draw.ok sc__law_draw (fun vs H Q E h => by first | (obtain ⟨rfl, _⟩ := h; rfl) | (obtain ⟨_, rfl, _⟩ := h; rfl) | (obtain ⟨_, _, rfl, _⟩ := h; rfl) | (obtain ⟨_, _, _, rfl, _⟩ := h; rfl) | (obtain ⟨_, _, _, _, rfl, _⟩ := h; rfl) | (obtain ⟨_, _, _, _, _, rfl, _⟩ := h; rfl) | (obtain ⟨_, _, _, _, _, _, rfl, _⟩ := h; rfl) | (obtain ⟨_, _, _, _, _, _, _, rfl, _⟩ := h; rfl) | (obtain ⟨_, _, _, _, _, _, _, _, rfl, _⟩ := h; rfl) | (obtain ⟨_, _, _, _, _, _, _, _, _, rfl, _⟩ := h; rfl) | (obtain ⟨_, _, _, _, _, _, _, _, _, _, rfl, _⟩ := h; rfl) | (obtain ⟨_, _, _, _, _, _, _, _, _, _, _, rfl, _⟩ := h; rfl) | (obtain ⟨_, _, _, _, _, _, _, _, _, _, _, _, rfl, _⟩ := h; rfl) | (obtain ⟨_, _, _, _, _, _, _, _, _, _, _, _, _, rfl, _⟩ := h; rfl) | (obtain ⟨_, _, _, _, _, _, _, _, _, _, _, _, _, _, rfl, _⟩ := h; rfl) | (obtain ⟨_, _, _, _, _, _, _, _, _, _, _, _, _, _, _, rfl, _⟩ := h; rfl) | (obtain ⟨_, _, _, _, _, _, _, _, _, _, _, _, _, _, _, _, rfl, _⟩ := h; rfl) | (obtain ⟨_, _, _, _, _, _, _, _, _, _, _, _, _, _, _, _, _, rfl, _⟩ := h; rfl) | (obtain ⟨_, _, _, _, _, _, _, _, _, _, _, _, _, _, _, _, _, _, rfl, _⟩ := h; rfl) | (obtain ⟨_, _, _, _, _, _, _, _, _, _, _, _, _, _, _, _, _, _, _, rfl, _⟩ := h; rfl) | (obtain ⟨_, _, _, _, _, _, _, _, _, _, _, _, _, _, _, _, _, _, _, _, rfl, _⟩ := h; rfl) | (obtain ⟨_, _, _, _, _, _, _, _, _, _, _, _, _, _, _, _, _, _, _, _, _, rfl, _⟩ := h; rfl) | (obtain ⟨_, _, _, _, _, _, _, _, _, _, _, _, _, _, _, _, _, _, _, _, _, _, rfl, _⟩ := h; rfl) | (obtain ⟨_, _, _, _, _, _, _, _, _, _, _, _, _, _, _, _, _, _, _, _, _, _, _, rfl, _⟩ := h; rfl) | (obtain ⟨_, _, _, _, _, _, _, _, _, _, _, _, _, _, _, _, _, _, _, _, _, _, _, _, rfl, _⟩ := h; rfl) | (obtain ⟨_, _, _, _, _, _, _, _, _, _, _, _, _, _, _, _, _, _, _, _, _, _, _, _, _, rfl, _⟩ := h; rfl) | (obtain ⟨_, _, _, _, _, _, _, _, _, _, _, _, _, _, _, _, _, _, _, _, _, _, _, _, _, _, rfl, _⟩ := h; rfl) | (obtain ⟨_, _, _, _, _, _, _, _, _, _, _, _, _, _, _, _, _, _, _, _, _, _, _, _, _, _, _, rfl, _⟩ := h; rfl) | (obtain ⟨_, _, _, _, _, _, _, _, _, _, _, _, _, _, _, _, _, _, _, _, _, _, _, _, _, _, _, _, rfl, _⟩ := h; rfl) | (obtain ⟨_, _, _, _, _, _, _, _, _, _, _, _, _, _, _, _, _, _, _, _, _, _, _, _, _, _, _, _, _, rfl, _⟩ := h; rfl) | (obtain ⟨_, _, _, _, _, _, _, _, _, _, _, _, _, _, _, _, _, _, _, _, _, _, _, _, _, _, _, _, _, _, rfl, _⟩ := h; rfl) | (obtain ⟨_, _, _, _, _, _, _, _, _, _, _, _, _, _, _, _, _, _, _, _, _, _, _, _, _, _, _, _, _, _, _, rfl, _⟩ := h; rfl)) (fun cdv A' outer s H vs Q E hr h => ⟨t__law_draw K A, ?_, rd__law_draw h⟩)
  unfold t__law_draw
  exact (pss_cons (ps_set (i := 2) sc__law_draw.nd rfl (Or.inl rfl) (pe_ix ix_seq (pn 0) pe_int (fun _ _ => rfl)))
  (pss_cons (ps_asg (pe_op o_add (pn 2) pe_int) (pg_sub (pn 0) pe_int set_list))
  (pss_cons (p_if (m_test (pt_cmpR o_lt (pn 2) (pe_callB c_len (by rfl) T.n_len (by decide +kernel) (pa_cons (pe_ix ix_seq (pn 0) pe_int (fun _ _ => rfl)) pa_nil)) (nomark _)))
    (pss_one (ps_ret (pe_op o_mod (pe_callTy c_int (by rfl) T.n_int (by decide +kernel) (pa_cons (pe_ix ix_seq (pe_ix ix_seq (pn 0) pe_int (fun _ _ => rfl)) (pn 2) (fun _ _ => rfl)) pa_nil)) (pn 1))))
    pss_nil)
  (pss_one (ps_ret (pe_op o_mod (pe_callTy c_int (by rfl) T.n_int (by decide +kernel) (pa_cons (pe_op o_add (pe_op o_mul (pn 2) pe_int) pe_int) pa_nil)) (pn 1)))))))
theorem ok__law_units (T : Top K mg A W) : FnOk P w K mg base CX0 1 W.a__law_units W.d__law_units ["_law_rows"] (sp__law_units K A) := by
  refine T.F__law_units.ok sc__law_units (fun vs H Q E h => by first | (obtain ⟨rfl, _⟩ := h; rfl) | (obtain ⟨_, rfl, _⟩ := h; rfl) | (obtain ⟨_, _, rfl, _⟩ := h; rfl) | (obtain ⟨_, _, _, rfl, _⟩ := h; rfl) | (obtain ⟨_, _, _, _, rfl, _⟩ := h; rfl) | (obtain ⟨_, _, _, _, _, rfl, _⟩ := h; rfl) | (obtain ⟨_, _, _, _, _, _, rfl, _⟩ := h; rfl) | (obtain ⟨_, _, _, _, _, _, _, rfl, _⟩ := h; rfl) | (obtain ⟨_, _, _, _, _, _, _, _, rfl, _⟩ := h; rfl) | (obtain ⟨_, _, _, _, _, _, _, _, _, rfl, _⟩ := h; rfl) | (obtain ⟨_, _, _, _, _, _, _, _, _, _, rfl, _⟩ := h; rfl) | (obtain ⟨_, _, _, _, _, _, _, _, _, _, _, rfl, _⟩ := h; rfl) | (obtain ⟨_, _, _, _, _, _, _, _, _, _, _, _, rfl, _⟩ := h; rfl) | (obtain ⟨_, _, _, _, _, _, _, _, _, _, _, _, _, rfl, _⟩ := h; rfl) | (obtain ⟨_, _, _, _, _, _, _, _, _, _, _, _, _, _, rfl, _⟩ := h; rfl) | (obtain ⟨_, _, _, _, _, _, _, _, _, _, _, _, _, _, _, rfl, _⟩ := h; rfl) | (obtain ⟨_, _, _, _, _, _, _, _, _, _, _, _, _, _, _, _, rfl, _⟩ := h; rfl) | (obtain ⟨_, _, _, _, _, _, _, _, _, _, _, _, _, _, _, _, _, rfl, _⟩ := h; rfl) | (obtain ⟨_, _, _, _, _, _, _, _, _, _, _, _, _, _, _, _, _, _, rfl, _⟩ := h; rfl) | (obtain ⟨_, _, _, _, _, _, _, _, _, _, _, _, _, _, _, _, _, _, _, rfl, _⟩ := h; rfl) | (obtain ⟨_, _, _, _, _, _, _, _, _, _, _, _, _, _, _, _, _, _, _, _, rfl, _⟩ := h; rfl) | (obtain ⟨_, _, _, _, _, _, _, _, _, _, _, _, _, _, _, _, _, _, _, _, _, rfl, _⟩ := h; rfl) | (obtain ⟨_, _, _, _, _, _, _, _, _, _, _, _, _, _, _, _, _, _, _, _, _, _, rfl, _⟩ := h; rfl) | (obtain ⟨_, _, _, _, _, _, _, _, _, _, _, _, _, _, _, _, _, _, _, _, _, _, _, rfl, _⟩ := h; rfl) | (obtain ⟨_, _, _, _, _, _, _, _, _, _, _, _, _, _, _, _, _, _, _, _, _, _, _, _, rfl, _⟩ := h; rfl) | (obtain ⟨_, _, _, _, _, _, _, _, _, _, _, _, _, _, _, _, _, _, _, _, _, _, _, _, _, rfl, _⟩ := h; rfl) | (obtain ⟨_, _, _, _, _, _, _, _, _, _, _, _, _, _, _, _, _, _, _, _, _, _, _, _, _, _, rfl, _⟩ := h; rfl) | (obtain ⟨_, _, _, _, _, _, _, _, _, _, _, _, _, _, _, _, _, _, _, _, _, _, _, _, _, _, _, rfl, _⟩ := h; rfl) | (obtain ⟨_, _, _, _, _, _, _, _, _, _, _, _, _, _, _, _, _, _, _, _, _, _, _, _, _, _, _, _, rfl, _⟩ := h; rfl) | (obtain ⟨_, _, _, _, _, _, _, _, _, _, _, _, _, _, _, _, _, _, _, _, _, _, _, _, _, _, _, _, _, rfl, _⟩ := h; rfl) | (obtain ⟨_, _, _, _, _, _, _, _, _, _, _, _, _, _, _, _, _, _, _, _, _, _, _, _, _, _, _, _, _, _, rfl, _⟩ := h; rfl) | (obtain ⟨_, _, _, _, _, _, _, _, _, _, _, _, _, _, _, _, _, _, _, _, _, _, _, _, _, _, _, _, _, _, _, rfl, _⟩ := h; rfl)) (fun cdv A' outer s H vs Q E hr h => ⟨t__law_units K A, ?_, rd__law_units h⟩)
  unfold t__law_units
  exact (pss_one (ps_ret (pe_callB (cr_sum rfl) (by rfl) T.n_sum (by decide +kernel) (pa_cons (pe_lc (own := [("_law_row", 1)]) (g := (gName 1)) (tt := tYes) rfl sc__law_units.nd (i_list (pi_list (pn 0))) (blkOk_by (own := [("_law_row", 1)]) (N := nm__law_units) (sc := defScope s__law_units) (by decide +kernel)) (fun _ _ _ _ _ => (pg_name (i := 1) sc__law_units.nd rfl (Or.inl rfl))) (fun _ _ _ _ _ => pts_nil) (fun _ _ _ _ _ => (pe_ix ix_seq (pn 1) pe_int (fun _ _ => rfl)))) pa_nil))))
theorem ok__law_joined (T : Top K mg A W) : FnOk P w K mg base CX0 1 W.a__law_joined W.d__law_joined ["_law_rows"] (sp__law_joined K A) := by
  refine T.F__law_joined.ok sc__law_joined (fun vs H Q E h => by first | (obtain ⟨rfl, _⟩ := h; rfl) | (obtain ⟨_, rfl, _⟩ := h; rfl) | (obtain ⟨_, _, rfl, _⟩ := h; rfl) | (obtain ⟨_, _, _, rfl, _⟩ := h; rfl) | (obtain ⟨_, _, _, _, rfl, _⟩ := h; rfl) | (obtain ⟨_, _, _, _, _, rfl, _⟩ := h; rfl) | (obtain ⟨_, _, _, _, _, _, rfl, _⟩ := h; rfl) | (obtain ⟨_, _, _, _, _, _, _, rfl, _⟩ := h; rfl) | (obtain ⟨_, _, _, _, _, _, _, _, rfl, _⟩ := h; rfl) | (obtain ⟨_, _, _, _, _, _, _, _, _, rfl, _⟩ := h; rfl) | (obtain ⟨_, _, _, _, _, _, _, _, _, _, rfl, _⟩ := h; rfl) | (obtain ⟨_, _, _, _, _, _, _, _, _, _, _, rfl, _⟩ := h; rfl) | (obtain ⟨_, _, _, _, _, _, _, _, _, _, _, _, rfl, _⟩ := h; rfl) | (obtain ⟨_, _, _, _, _, _, _, _, _, _, _, _, _, rfl, _⟩ := h; rfl) | (obtain ⟨_, _, _, _, _, _, _, _, _, _, _, _, _, _, rfl, _⟩ := h; rfl) | (obtain ⟨_, _, _, _, _, _, _, _, _, _, _, _, _, _, _, rfl, _⟩ := h; rfl) | (obtain ⟨_, _, _, _, _, _, _, _, _, _, _, _, _, _, _, _, rfl, _⟩ := h; rfl) | (obtain ⟨_, _, _, _, _, _, _, _, _, _, _, _, _, _, _, _, _, rfl, _⟩ := h; rfl) | (obtain ⟨_, _, _, _, _, _, _, _, _, _, _, _, _, _, _, _, _, _, rfl, _⟩ := h; rfl) | (obtain ⟨_, _, _, _, _, _, _, _, _, _, _, _, _, _, _, _, _, _, _, rfl, _⟩ := h; rfl) | (obtain ⟨_, _, _, _, _, _, _, _, _, _, _, _, _, _, _, _, _, _, _, _, rfl, _⟩ := h; rfl) | (obtain ⟨_, _, _, _, _, _, _, _, _, _, _, _, _, _, _, _, _, _, _, _, _, rfl, _⟩ := h; rfl) | (obtain ⟨_, _, _, _, _, _, _, _, _, _, _, _, _, _, _, _, _, _, _, _, _, _, rfl, _⟩ := h; rfl) | (obtain ⟨_, _, _, _, _, _, _, _, _, _, _, _, _, _, _, _, _, _, _, _, _, _, _, rfl, _⟩ := h; rfl) | (obtain ⟨_, _, _, _, _, _, _, _, _, _, _, _, _, _, _, _, _, _, _, _, _, _, _, _, rfl, _⟩ := h; rfl) | (obtain ⟨_, _, _, _, _, _, _, _, _, _, _, _, _, _, _, _, _, _, _, _, _, _, _, _, _, rfl, _⟩ := h; rfl) | (obtain ⟨_, _, _, _, _, _, _, _, _, _, _, _, _, _, _, _, _, _, _, _, _, _, _, _, _, _, rfl, _⟩ := h; rfl) | (obtain ⟨_, _, _, _, _, _, _, _, _, _, _, _, _, _, _, _, _, _, _, _, _, _, _, _, _, _, _, rfl, _⟩ := h; rfl) | (obtain ⟨_, _, _, _, _, _, _, _, _, _, _, _, _, _, _, _, _, _, _, _, _, _, _, _, _, _, _, _, rfl, _⟩ := h; rfl) | (obtain ⟨_, _, _, _, _, _, _, _, _, _, _, _, _, _, _, _, _, _, _, _, _, _, _, _, _, _, _, _, _, rfl, _⟩ := h; rfl) | (obtain ⟨_, _, _, _, _, _, _, _, _, _, _, _, _, _, _, _, _, _, _, _, _, _, _, _, _, _, _, _, _, _, rfl, _⟩ := h; rfl) | (obtain ⟨_, _, _, _, _, _, _, _, _, _, _, _, _, _, _, _, _, _, _, _, _, _, _, _, _, _, _, _, _, _, _, rfl, _⟩ := h; rfl)) (fun cdv A' outer s H vs Q E hr h => ⟨t__law_joined K A, ?_, rd__law_joined h⟩)
  unfold t__law_joined
  exact (pss_cons (ps_set (i := 1) sc__law_joined.nd rfl (Or.inl rfl) (pe_lst pa_nil))
  (pss_cons (ps_for PassesOwn.never rfl (i_list (pi_list (pn 0))) (pg_name (i := 2) sc__law_joined.nd rfl (Or.inl rfl))
    (pss_one (p_if (PW.pt (pw_and (m_test (pt_cmpR (o_eq hr.units) (pe_ix ix_seq (pn 2) pe_int (fun _ _ => rfl)) pe_int (nomark _))) (pw_and (m_test (pt_cmpR o_gt (pe_callB c_len (by rfl) T.n_len (by decide +kernel) (pa_cons (pn 1) pa_nil)) pe_int (nomark _))) (pw_and1 (m_test (pt_cmpR (o_eq hr.units) (pe_ix ix_seq (pe_ix ix_seq (pn 1) (pe_un o_neg pe_int) (fun _ _ => rfl)) pe_int (fun _ _ => rfl)) pe_int (nomark _)))))))
    (pss_one (ps_asg (pe_lst (pa_cons (pe_op o_add (pe_ix ix_seq (pe_ix ix_seq (pn 1) (pe_un o_neg pe_int) (fun _ _ => rfl)) pe_int (fun _ _ => rfl)) (pe_ix ix_seq (pn 2) pe_int (fun _ _ => rfl))) (pa_cons pe_int (pa_cons pe_int (pa_cons pe_int (pa_cons (pe_lst pa_nil) pa_nil)))))) (pg_sub (pn 1) (pe_un o_neg pe_int) set_list)))
    (pss_one (ps_expr (pe_bm PySem.F.plainAttrs_list PySem.F.slot_list_append PySem.F.type_list_append mt_append (pn 1) (pa_cons (pe_callTy c_list (by rfl) T.n_list (by decide +kernel) (pa_cons (pn 2) pa_nil)) pa_nil)))))))
  (pss_one (ps_ret (pn 1)))))
theorem ok__law_together (T : Top K mg A W) : FnOk P w K mg base CX0 2 W.a__law_together W.d__law_together ["_law_rows", "_law_units_here"] (sp__law_together K A) := by
  refine T.F__law_together.ok sc__law_together (fun vs H Q E h => by first | (obtain ⟨rfl, _⟩ := h; rfl) | (obtain ⟨_, rfl, _⟩ := h; rfl) | (obtain ⟨_, _, rfl, _⟩ := h; rfl) | (obtain ⟨_, _, _, rfl, _⟩ := h; rfl) | (obtain ⟨_, _, _, _, rfl, _⟩ := h; rfl) | (obtain ⟨_, _, _, _, _, rfl, _⟩ := h; rfl) | (obtain ⟨_, _, _, _, _, _, rfl, _⟩ := h; rfl) | (obtain ⟨_, _, _, _, _, _, _, rfl, _⟩ := h; rfl) | (obtain ⟨_, _, _, _, _, _, _, _, rfl, _⟩ := h; rfl) | (obtain ⟨_, _, _, _, _, _, _, _, _, rfl, _⟩ := h; rfl) | (obtain ⟨_, _, _, _, _, _, _, _, _, _, rfl, _⟩ := h; rfl) | (obtain ⟨_, _, _, _, _, _, _, _, _, _, _, rfl, _⟩ := h; rfl) | (obtain ⟨_, _, _, _, _, _, _, _, _, _, _, _, rfl, _⟩ := h; rfl) | (obtain ⟨_, _, _, _, _, _, _, _, _, _, _, _, _, rfl, _⟩ := h; rfl) | (obtain ⟨_, _, _, _, _, _, _, _, _, _, _, _, _, _, rfl, _⟩ := h; rfl) | (obtain ⟨_, _, _, _, _, _, _, _, _, _, _, _, _, _, _, rfl, _⟩ := h; rfl) | (obtain ⟨_, _, _, _, _, _, _, _, _, _, _, _, _, _, _, _, rfl, _⟩ := h; rfl) | (obtain ⟨_, _, _, _, _, _, _, _, _, _, _, _, _, _, _, _, _, rfl, _⟩ := h; rfl) | (obtain ⟨_, _, _, _, _, _, _, _, _, _, _, _, _, _, _, _, _, _, rfl, _⟩ := h; rfl) | (obtain ⟨_, _, _, _, _, _, _, _, _, _, _, _, _, _, _, _, _, _, _, rfl, _⟩ := h; rfl) | (obtain ⟨_, _, _, _, _, _, _, _, _, _, _, _, _, _, _, _, _, _, _, _, rfl, _⟩ := h; rfl) | (obtain ⟨_, _, _, _, _, _, _, _, _, _, _, _, _, _, _, _, _, _, _, _, _, rfl, _⟩ := h; rfl) | (obtain ⟨_, _, _, _, _, _, _, _, _, _, _, _, _, _, _, _, _, _, _, _, _, _, rfl, _⟩ := h; rfl) | (obtain ⟨_, _, _, _, _, _, _, _, _, _, _, _, _, _, _, _, _, _, _, _, _, _, _, rfl, _⟩ := h; rfl) | (obtain ⟨_, _, _, _, _, _, _, _, _, _, _, _, _, _, _, _, _, _, _, _, _, _, _, _, rfl, _⟩ := h; rfl) | (obtain ⟨_, _, _, _, _, _, _, _, _, _, _, _, _, _, _, _, _, _, _, _, _, _, _, _, _, rfl, _⟩ := h; rfl) | (obtain ⟨_, _, _, _, _, _, _, _, _, _, _, _, _, _, _, _, _, _, _, _, _, _, _, _, _, _, rfl, _⟩ := h; rfl) | (obtain ⟨_, _, _, _, _, _, _, _, _, _, _, _, _, _, _, _, _, _, _, _, _, _, _, _, _, _, _, rfl, _⟩ := h; rfl) | (obtain ⟨_, _, _, _, _, _, _, _, _, _, _, _, _, _, _, _, _, _, _, _, _, _, _, _, _, _, _, _, rfl, _⟩ := h; rfl) | (obtain ⟨_, _, _, _, _, _, _, _, _, _, _, _, _, _, _, _, _, _, _, _, _, _, _, _, _, _, _, _, _, rfl, _⟩ := h; rfl) | (obtain ⟨_, _, _, _, _, _, _, _, _, _, _, _, _, _, _, _, _, _, _, _, _, _, _, _, _, _, _, _, _, _, rfl, _⟩ := h; rfl) | (obtain ⟨_, _, _, _, _, _, _, _, _, _, _, _, _, _, _, _, _, _, _, _, _, _, _, _, _, _, _, _, _, _, _, rfl, _⟩ := h; rfl)) (fun cdv A' outer s H vs Q E hr h => ⟨t__law_together K A, ?_, rd__law_together h⟩)
  unfold t__law_together
  exact (pss_cons (ps_setLc (i := 2) (own := [("_law_row", 4)]) (g := (gName 4)) (tt := (mTest (tOp (mNe K) (tOp (rIx K) (mV 4) (tC (.int 3))) (tC (.int 0))))) rfl sc__law_together.nd rfl rfl (sw_true rfl rfl rfl (by decide +kernel)) (i_list (pi_list (pn 0))) (blkOk_by (own := [("_law_row", 4)]) (N := nm__law_together) (sc := defScope s__law_together) (by decide +kernel)) (fun _ _ _ _ _ => (pg_name (i := 4) sc__law_together.nd rfl (Or.inl rfl))) (fun _ _ _ _ _ => (pts_one (m_test (pt_cmpR (o_ne hr.units) (pe_ix ix_seq (pn 4) pe_int (fun _ _ => rfl)) pe_int (nomark _))))) (fun _ _ _ _ _ => (pe_callTy c_list (by rfl) T.n_list (by decide +kernel) (pa_cons (pn 4) pa_nil))))
  (pss_cons (ps_set (i := 3) sc__law_together.nd rfl (Or.inl rfl) (pe_op o_sub (pn 1) (pe_call (ok__law_units T) (hr.mono (by decide)) (by rfl) T.m__law_units T.F__law_units.kp T.b__law_units .nil pass0 (pa_cons (pn 2) pa_nil))))
  (p_cut (p_if (m_test (pt_cmpR o_gt (pn 3) pe_int (nomark _)))
    (pss_one (ps_expr (pe_bm PySem.F.plainAttrs_list PySem.F.slot_list_append PySem.F.type_list_append mt_append (pn 2) (pa_cons (pe_lst (pa_cons (pn 3) (pa_cons pe_int (pa_cons pe_int (pa_cons pe_int (pa_cons (pe_lst pa_nil) pa_nil)))))) pa_nil))))
    pss_nil)
  (pss_one (ps_ret (pn 2))))))
theorem ok__law_taken (T : Top K mg A W) : FnOk P w K mg base CX0 3 W.a__law_taken W.d__law_taken ["_law_rows", "_law_units_here", "_law_many", "_law_kind", "_law_version", "_law_number"] (sp__law_taken K A) := by
  refine T.F__law_taken.ok sc__law_taken (fun vs H Q E h => by first | (obtain ⟨rfl, _⟩ := h; rfl) | (obtain ⟨_, rfl, _⟩ := h; rfl) | (obtain ⟨_, _, rfl, _⟩ := h; rfl) | (obtain ⟨_, _, _, rfl, _⟩ := h; rfl) | (obtain ⟨_, _, _, _, rfl, _⟩ := h; rfl) | (obtain ⟨_, _, _, _, _, rfl, _⟩ := h; rfl) | (obtain ⟨_, _, _, _, _, _, rfl, _⟩ := h; rfl) | (obtain ⟨_, _, _, _, _, _, _, rfl, _⟩ := h; rfl) | (obtain ⟨_, _, _, _, _, _, _, _, rfl, _⟩ := h; rfl) | (obtain ⟨_, _, _, _, _, _, _, _, _, rfl, _⟩ := h; rfl) | (obtain ⟨_, _, _, _, _, _, _, _, _, _, rfl, _⟩ := h; rfl) | (obtain ⟨_, _, _, _, _, _, _, _, _, _, _, rfl, _⟩ := h; rfl) | (obtain ⟨_, _, _, _, _, _, _, _, _, _, _, _, rfl, _⟩ := h; rfl) | (obtain ⟨_, _, _, _, _, _, _, _, _, _, _, _, _, rfl, _⟩ := h; rfl) | (obtain ⟨_, _, _, _, _, _, _, _, _, _, _, _, _, _, rfl, _⟩ := h; rfl) | (obtain ⟨_, _, _, _, _, _, _, _, _, _, _, _, _, _, _, rfl, _⟩ := h; rfl) | (obtain ⟨_, _, _, _, _, _, _, _, _, _, _, _, _, _, _, _, rfl, _⟩ := h; rfl) | (obtain ⟨_, _, _, _, _, _, _, _, _, _, _, _, _, _, _, _, _, rfl, _⟩ := h; rfl) | (obtain ⟨_, _, _, _, _, _, _, _, _, _, _, _, _, _, _, _, _, _, rfl, _⟩ := h; rfl) | (obtain ⟨_, _, _, _, _, _, _, _, _, _, _, _, _, _, _, _, _, _, _, rfl, _⟩ := h; rfl) | (obtain ⟨_, _, _, _, _, _, _, _, _, _, _, _, _, _, _, _, _, _, _, _, rfl, _⟩ := h; rfl) | (obtain ⟨_, _, _, _, _, _, _, _, _, _, _, _, _, _, _, _, _, _, _, _, _, rfl, _⟩ := h; rfl) | (obtain ⟨_, _, _, _, _, _, _, _, _, _, _, _, _, _, _, _, _, _, _, _, _, _, rfl, _⟩ := h; rfl) | (obtain ⟨_, _, _, _, _, _, _, _, _, _, _, _, _, _, _, _, _, _, _, _, _, _, _, rfl, _⟩ := h; rfl) | (obtain ⟨_, _, _, _, _, _, _, _, _, _, _, _, _, _, _, _, _, _, _, _, _, _, _, _, rfl, _⟩ := h; rfl) | (obtain ⟨_, _, _, _, _, _, _, _, _, _, _, _, _, _, _, _, _, _, _, _, _, _, _, _, _, rfl, _⟩ := h; rfl) | (obtain ⟨_, _, _, _, _, _, _, _, _, _, _, _, _, _, _, _, _, _, _, _, _, _, _, _, _, _, rfl, _⟩ := h; rfl) | (obtain ⟨_, _, _, _, _, _, _, _, _, _, _, _, _, _, _, _, _, _, _, _, _, _, _, _, _, _, _, rfl, _⟩ := h; rfl) | (obtain ⟨_, _, _, _, _, _, _, _, _, _, _, _, _, _, _, _, _, _, _, _, _, _, _, _, _, _, _, _, rfl, _⟩ := h; rfl) | (obtain ⟨_, _, _, _, _, _, _, _, _, _, _, _, _, _, _, _, _, _, _, _, _, _, _, _, _, _, _, _, _, rfl, _⟩ := h; rfl) | (obtain ⟨_, _, _, _, _, _, _, _, _, _, _, _, _, _, _, _, _, _, _, _, _, _, _, _, _, _, _, _, _, _, rfl, _⟩ := h; rfl) | (obtain ⟨_, _, _, _, _, _, _, _, _, _, _, _, _, _, _, _, _, _, _, _, _, _, _, _, _, _, _, _, _, _, _, rfl, _⟩ := h; rfl)) (fun cdv A' outer s H vs Q E hr h => ⟨t__law_taken K A, ?_, rd__law_taken h⟩)
  unfold t__law_taken
  exact (pss_cons (p_if (m_test (pt_cmpR o_gt (pe_op o_add (pe_call (ok__law_units T) (hr.mono (by decide)) (by rfl) T.m__law_units T.F__law_units.kp T.b__law_units .nil pass0 (pa_cons (pe_lc (own := [("_law_row", 11)]) (g := (gName 11)) (tt := (mTest (tOp (mNe K) (tOp (rIx K) (mV 11) (tC (.int 3))) (tC (.int 0))))) rfl sc__law_taken.nd (i_list (pi_list (pn 0))) (blkOk_by (own := [("_law_row", 11)]) (N := nm__law_taken) (sc := defScope s__law_taken) (by decide +kernel)) (fun _ _ _ _ _ => (pg_name (i := 11) sc__law_taken.nd rfl (Or.inl rfl))) (fun _ _ _ _ _ => (pts_one (m_test (pt_cmpR (o_ne hr.units) (pe_ix ix_seq (pn 11) pe_int (fun _ _ => rfl)) pe_int (nomark _))))) (fun _ _ _ _ _ => (pn 11))) pa_nil)) (pn 2)) (pn 1) (nomark _)))
    (pss_one (ps_ret pe_non))
    pss_nil)
  (pss_cons (ps_setLc (i := 6) (own := [("_law_k", 12)]) (g := (gName 12)) (tt := (tAnd (mTest (tOp (mEq K) (tOp (rIx K) (tOp (rIx K) (mV 0) (mV 12)) (tC (.int 3))) (tC (.int 0)))) (mTest (tOp mGe (tOp (rIx K) (tOp (rIx K) (mV 0) (mV 12)) (tC (.int 0))) (mV 2))))) rfl sc__law_taken.nd rfl rfl (sw_true rfl rfl rfl (by decide +kernel)) (i_rng1 (pi_range1 (by rfl) T.n_range (pa_cons (pe_callB c_len (by rfl) T.n_len (by decide +kernel) (pa_cons (pn 0) pa_nil)) pa_nil))) (blkOk_by (own := [("_law_k", 12)]) (N := nm__law_taken) (sc := defScope s__law_taken) (by decide +kernel)) (fun _ _ _ _ _ => (pg_name (i := 12) sc__law_taken.nd rfl (Or.inl rfl))) (fun _ _ _ _ _ => (pts_one (PW.pt (pw_and (m_test (pt_cmpR (o_eq hr.units) (pe_ix ix_seq (pe_ix ix_seq (pn 0) (pn 12) (fun _ _ => rfl)) pe_int (fun _ _ => rfl)) pe_int (nomark _))) (pw_and1 (m_test (pt_cmpR o_ge (pe_ix ix_seq (pe_ix ix_seq (pn 0) (pn 12) (fun _ _ => rfl)) pe_int (fun _ _ => rfl)) (pn 2) (nomark _)))))))) (fun _ _ _ _ _ => (pn 12)))
  (p_cut (p_if (m_test (pt_cmpR (o_eq hr.units) (pe_callB c_len (by rfl) T.n_len (by decide +kernel) (pa_cons (pn 6) pa_nil)) pe_int (nomark _)))
    (pss_cons (ps_set (i := 0) sc__law_taken.nd rfl (Or.inr rfl) (pe_call (ok__law_together T) (hr.mono (by decide)) (by rfl) T.m__law_together T.F__law_together.kp T.b__law_together .nil pass0 (pa_cons (pn 0) (pa_cons (pn 1) pa_nil))))
  (pss_one (ps_set (i := 6) sc__law_taken.nd rfl (Or.inl rfl) (pe_lst (pa_cons (pe_op o_sub (pe_callB c_len (by rfl) T.n_len (by decide +kernel) (pa_cons (pn 0) pa_nil)) pe_int) pa_nil)))))
    pss_nil)
  (pss_cons (ps_set (i := 7) sc__law_taken.nd rfl (Or.inl rfl) (pe_ix ix_seq (pn 6) pe_int (fun _ _ => rfl)))
  (pss_cons (ps_set (i := 8) sc__law_taken.nd rfl (Or.inl rfl) (pe_lst (pa_cons (pn 2) (pa_cons (pn 3) (pa_cons (pn 4) (pa_cons (pn 5) (pa_cons (pe_op o_mul (pe_lst (pa_cons pe_int pa_nil)) (pe_op o_sub (pe_op o_mul pe_int (pn 2)) pe_int)) pa_nil)))))))
  (pss_cons (ps_set (i := 9) sc__law_taken.nd rfl (Or.inl rfl) (pe_op o_sub (pe_ix ix_seq (pe_ix ix_seq (pn 0) (pn 7) (fun _ _ => rfl)) pe_int (fun _ _ => rfl)) (pn 2)))
  (pss_cons (ps_set (i := 10) sc__law_taken.nd rfl (Or.inl rfl) (pe_lst pa_nil))
  (p_cut (p_if (m_test (pt_cmpR o_gt (pn 9) pe_int (nomark _)))
    (pss_one (ps_set (i := 10) sc__law_taken.nd rfl (Or.inl rfl) (pe_lst (pa_cons (pe_lst (pa_cons (pn 9) (pa_cons pe_int (pa_cons pe_int (pa_cons pe_int (pa_cons (pe_lst pa_nil) pa_nil)))))) pa_nil))))
    pss_nil)
  (pss_one (ps_ret (pe_lst (pa_cons (pe_op o_add (pe_op o_add (pe_op o_add (pe_slice o_sl (pn 0) po_none (p_some (pn 7))) (pe_lst (pa_cons (pn 8) pa_nil))) (pn 10)) (pe_slice o_sl (pn 0) (p_some (pe_op o_add (pn 7) pe_int)) po_none)) (pa_cons (pn 7) pa_nil)))))))))))))
theorem ok__law_written (T : Top K mg A W) : FnOk P w K mg base CX0 1 W.a__law_written W.d__law_written ["_law_rows"] (sp__law_written K A) := by
  refine T.F__law_written.ok sc__law_written (fun vs H Q E h => by first | (obtain ⟨rfl, _⟩ := h; rfl) | (obtain ⟨_, rfl, _⟩ := h; rfl) | (obtain ⟨_, _, rfl, _⟩ := h; rfl) | (obtain ⟨_, _, _, rfl, _⟩ := h; rfl) | (obtain ⟨_, _, _, _, rfl, _⟩ := h; rfl) | (obtain ⟨_, _, _, _, _, rfl, _⟩ := h; rfl) | (obtain ⟨_, _, _, _, _, _, rfl, _⟩ := h; rfl) | (obtain ⟨_, _, _, _, _, _, _, rfl, _⟩ := h; rfl) | (obtain ⟨_, _, _, _, _, _, _, _, rfl, _⟩ := h; rfl) | (obtain ⟨_, _, _, _, _, _, _, _, _, rfl, _⟩ := h; rfl) | (obtain ⟨_, _, _, _, _, _, _, _, _, _, rfl, _⟩ := h; rfl) | (obtain ⟨_, _, _, _, _, _, _, _, _, _, _, rfl, _⟩ := h; rfl) | (obtain ⟨_, _, _, _, _, _, _, _, _, _, _, _, rfl, _⟩ := h; rfl) | (obtain ⟨_, _, _, _, _, _, _, _, _, _, _, _, _, rfl, _⟩ := h; rfl) | (obtain ⟨_, _, _, _, _, _, _, _, _, _, _, _, _, _, rfl, _⟩ := h; rfl) | (obtain ⟨_, _, _, _, _, _, _, _, _, _, _, _, _, _, _, rfl, _⟩ := h; rfl) | (obtain ⟨_, _, _, _, _, _, _, _, _, _, _, _, _, _, _, _, rfl, _⟩ := h; rfl) | (obtain ⟨_, _, _, _, _, _, _, _, _, _, _, _, _, _, _, _, _, rfl, _⟩ := h; rfl) | (obtain ⟨_, _, _, _, _, _, _, _, _, _, _, _, _, _, _, _, _, _, rfl, _⟩ := h; rfl) | (obtain ⟨_, _, _, _, _, _, _, _, _, _, _, _, _, _, _, _, _, _, _, rfl, _⟩ := h; rfl) | (obtain ⟨_, _, _, _, _, _, _, _, _, _, _, _, _, _, _, _, _, _, _, _, rfl, _⟩ := h; rfl) | (obtain ⟨_, _, _, _, _, _, _, _, _, _, _, _, _, _, _, _, _, _, _, _, _, rfl, _⟩ := h; rfl) | (obtain ⟨_, _, _, _, _, _, _, _, _, _, _, _, _, _, _, _, _, _, _, _, _, _, rfl, _⟩ := h; rfl) | (obtain ⟨_, _, _, _, _, _, _, _, _, _, _, _, _, _, _, _, _, _, _, _, _, _, _, rfl, _⟩ := h; rfl) | (obtain ⟨_, _, _, _, _, _, _, _, _, _, _, _, _, _, _, _, _, _, _, _, _, _, _, _, rfl, _⟩ := h; rfl) | (obtain ⟨_, _, _, _, _, _, _, _, _, _, _, _, _, _, _, _, _, _, _, _, _, _, _, _, _, rfl, _⟩ := h; rfl) | (obtain ⟨_, _, _, _, _, _, _, _, _, _, _, _, _, _, _, _, _, _, _, _, _, _, _, _, _, _, rfl, _⟩ := h; rfl) | (obtain ⟨_, _, _, _, _, _, _, _, _, _, _, _, _, _, _, _, _, _, _, _, _, _, _, _, _, _, _, rfl, _⟩ := h; rfl) | (obtain ⟨_, _, _, _, _, _, _, _, _, _, _, _, _, _, _, _, _, _, _, _, _, _, _, _, _, _, _, _, rfl, _⟩ := h; rfl) | (obtain ⟨_, _, _, _, _, _, _, _, _, _, _, _, _, _, _, _, _, _, _, _, _, _, _, _, _, _, _, _, _, rfl, _⟩ := h; rfl) | (obtain ⟨_, _, _, _, _, _, _, _, _, _, _, _, _, _, _, _, _, _, _, _, _, _, _, _, _, _, _, _, _, _, rfl, _⟩ := h; rfl) | (obtain ⟨_, _, _, _, _, _, _, _, _, _, _, _, _, _, _, _, _, _, _, _, _, _, _, _, _, _, _, _, _, _, _, rfl, _⟩ := h; rfl)) (fun cdv A' outer s H vs Q E hr h => ⟨t__law_written K A, ?_, rd__law_written h⟩)
  unfold t__law_written
  exact (pss_cons (ps_set (i := 1) sc__law_written.nd rfl (Or.inl rfl) (pe_lst pa_nil))
  (pss_cons (ps_for PassesOwn.never rfl (i_list (pi_list (pn 0))) (pg_lst rfl (p_gcons (pg_name (i := 2) sc__law_written.nd rfl (Or.inl rfl)) (p_gcons (pg_name (i := 3) sc__law_written.nd rfl (Or.inl rfl)) (p_gcons (pg_name (i := 4) sc__law_written.nd rfl (Or.inl rfl)) (p_gcons (pg_name (i := 5) sc__law_written.nd rfl (Or.inl rfl)) (p_gcons (pg_name (i := 6) sc__law_written.nd rfl (Or.inl rfl)) p_gnil))))))
    (pss_cons (ps_set (i := 7) sc__law_written.nd rfl (Or.inl rfl) (pe_lst (pa_cons (pe_op o_mod (pe_callTy c_int (by rfl) T.n_int (by decide +kernel) (pa_cons (pn 2) pa_nil)) pe_int) (pa_cons (pe_op o_fdiv (pn 2) pe_int) (pa_cons (pn 3) (pa_cons (pn 4) pa_nil))))))
  (pss_cons (ps_for PassesOwn.never rfl (i_rng1 (pi_range1 (by rfl) T.n_range (pa_cons pe_int pa_nil))) (pg_name (i := 8) sc__law_written.nd rfl (Or.inl rfl))
    (pss_cons (ps_expr (pe_bm PySem.F.plainAttrs_list PySem.F.slot_list_append PySem.F.type_list_append mt_append (pn 7) (pa_cons (pe_op o_mod (pe_callTy c_int (by rfl) T.n_int (by decide +kernel) (pa_cons (pn 5) pa_nil)) pe_int) pa_nil)))
  (pss_one (ps_set (i := 5) sc__law_written.nd rfl (Or.inl rfl) (pe_op o_fdiv (pn 5) pe_int)))))
  (pss_one (ps_set (i := 1) sc__law_written.nd rfl (Or.inl rfl) (pe_op o_add (pe_op o_add (pe_op o_add (pn 1) (pn 7)) (pn 6)) (pe_op o_mul (pe_lst (pa_cons pe_int pa_nil)) (pe_op o_sub (pe_op o_sub (pe_op o_mul pe_int (pn 2)) pe_int) (pe_callB c_len (by rfl) T.n_len (by decide +kernel) (pa_cons (pn 6) pa_nil))))))))))
  (pss_one (ps_ret (pn 1)))))
theorem ok__law_take (T : Top K mg A W) : FnOk P w K mg base CX0 6 W.a__law_take W.d__law_take ["_law_data", "_law_many", "_law_kind", "_law_version", "_law_number"] (sp__law_take K A) := by
  refine T.F__law_take.ok sc__law_take (fun vs H Q E h => by first | (obtain ⟨rfl, _⟩ := h; rfl) | (obtain ⟨_, rfl, _⟩ := h; rfl) | (obtain ⟨_, _, rfl, _⟩ := h; rfl) | (obtain ⟨_, _, _, rfl, _⟩ := h; rfl) | (obtain ⟨_, _, _, _, rfl, _⟩ := h; rfl) | (obtain ⟨_, _, _, _, _, rfl, _⟩ := h; rfl) | (obtain ⟨_, _, _, _, _, _, rfl, _⟩ := h; rfl) | (obtain ⟨_, _, _, _, _, _, _, rfl, _⟩ := h; rfl) | (obtain ⟨_, _, _, _, _, _, _, _, rfl, _⟩ := h; rfl) | (obtain ⟨_, _, _, _, _, _, _, _, _, rfl, _⟩ := h; rfl) | (obtain ⟨_, _, _, _, _, _, _, _, _, _, rfl, _⟩ := h; rfl) | (obtain ⟨_, _, _, _, _, _, _, _, _, _, _, rfl, _⟩ := h; rfl) | (obtain ⟨_, _, _, _, _, _, _, _, _, _, _, _, rfl, _⟩ := h; rfl) | (obtain ⟨_, _, _, _, _, _, _, _, _, _, _, _, _, rfl, _⟩ := h; rfl) | (obtain ⟨_, _, _, _, _, _, _, _, _, _, _, _, _, _, rfl, _⟩ := h; rfl) | (obtain ⟨_, _, _, _, _, _, _, _, _, _, _, _, _, _, _, rfl, _⟩ := h; rfl) | (obtain ⟨_, _, _, _, _, _, _, _, _, _, _, _, _, _, _, _, rfl, _⟩ := h; rfl) | (obtain ⟨_, _, _, _, _, _, _, _, _, _, _, _, _, _, _, _, _, rfl, _⟩ := h; rfl) | (obtain ⟨_, _, _, _, _, _, _, _, _, _, _, _, _, _, _, _, _, _, rfl, _⟩ := h; rfl) | (obtain ⟨_, _, _, _, _, _, _, _, _, _, _, _, _, _, _, _, _, _, _, rfl, _⟩ := h; rfl) | (obtain ⟨_, _, _, _, _, _, _, _, _, _, _, _, _, _, _, _, _, _, _, _, rfl, _⟩ := h; rfl) | (obtain ⟨_, _, _, _, _, _, _, _, _, _, _, _, _, _, _, _, _, _, _, _, _, rfl, _⟩ := h; rfl) | (obtain ⟨_, _, _, _, _, _, _, _, _, _, _, _, _, _, _, _, _, _, _, _, _, _, rfl, _⟩ := h; rfl) | (obtain ⟨_, _, _, _, _, _, _, _, _, _, _, _, _, _, _, _, _, _, _, _, _, _, _, rfl, _⟩ := h; rfl) | (obtain ⟨_, _, _, _, _, _, _, _, _, _, _, _, _, _, _, _, _, _, _, _, _, _, _, _, rfl, _⟩ := h; rfl) | (obtain ⟨_, _, _, _, _, _, _, _, _, _, _, _, _, _, _, _, _, _, _, _, _, _, _, _, _, rfl, _⟩ := h; rfl) | (obtain ⟨_, _, _, _, _, _, _, _, _, _, _, _, _, _, _, _, _, _, _, _, _, _, _, _, _, _, rfl, _⟩ := h; rfl) | (obtain ⟨_, _, _, _, _, _, _, _, _, _, _, _, _, _, _, _, _, _, _, _, _, _, _, _, _, _, _, rfl, _⟩ := h; rfl) | (obtain ⟨_, _, _, _, _, _, _, _, _, _, _, _, _, _, _, _, _, _, _, _, _, _, _, _, _, _, _, _, rfl, _⟩ := h; rfl) | (obtain ⟨_, _, _, _, _, _, _, _, _, _, _, _, _, _, _, _, _, _, _, _, _, _, _, _, _, _, _, _, _, rfl, _⟩ := h; rfl) | (obtain ⟨_, _, _, _, _, _, _, _, _, _, _, _, _, _, _, _, _, _, _, _, _, _, _, _, _, _, _, _, _, _, rfl, _⟩ := h; rfl) | (obtain ⟨_, _, _, _, _, _, _, _, _, _, _, _, _, _, _, _, _, _, _, _, _, _, _, _, _, _, _, _, _, _, _, rfl, _⟩ := h; rfl)) (fun cdv A' outer s H vs Q E hr h => ⟨t__law_take K A, ?_, rd__law_take T.xc h⟩)
  unfold t__law_take
  exact (pss_one (p_tryAs (i := 5) rfl rfl sc__law_take.nd rfl rfl ⟨rfl, by decide, .inl T.m_RecordError⟩ takesNo
    (fun W pins9 xe9 tk hpo => (pss_one (ps_ret (pe_callS (ok_take T) (hr.mono (by decide)) (by rfl) T.m_take T.F_take.kp T.b_take (fun σ => passAt tk σ) (pa_cons (pn 0) (pa_cons (pn 1) (pa_cons (pn 2) (pa_cons (pn 3) (pa_cons (pn 4) pa_nil)))))))))
    (fun a oe cls d pins9 hz hf => (pss_cons (p_if (p_truth (pe_callB (call_isX hz hf) (by rfl) T.n_isinstance (by decide +kernel) (pa_cons (pn 5) (pa_cons (pe_glob (by rfl) T.m_Full rfl) pa_nil))) (by intro _; rfl))
    (pss_one (ps_ret pe_str))
    pss_nil)
  (pss_one (ps_ret pe_str))))))
theorem ok__law_offsets (T : Top K mg A W) : FnOk P w K mg base CX0 1 W.a__law_offsets W.d__law_offsets ["_law_rows"] (sp__law_offsets K A) := by
  refine T.F__law_offsets.ok sc__law_offsets (fun vs H Q E h => by first | (obtain ⟨rfl, _⟩ := h; rfl) | (obtain ⟨_, rfl, _⟩ := h; rfl) | (obtain ⟨_, _, rfl, _⟩ := h; rfl) | (obtain ⟨_, _, _, rfl, _⟩ := h; rfl) | (obtain ⟨_, _, _, _, rfl, _⟩ := h; rfl) | (obtain ⟨_, _, _, _, _, rfl, _⟩ := h; rfl) | (obtain ⟨_, _, _, _, _, _, rfl, _⟩ := h; rfl) | (obtain ⟨_, _, _, _, _, _, _, rfl, _⟩ := h; rfl) | (obtain ⟨_, _, _, _, _, _, _, _, rfl, _⟩ := h; rfl) | (obtain ⟨_, _, _, _, _, _, _, _, _, rfl, _⟩ := h; rfl) | (obtain ⟨_, _, _, _, _, _, _, _, _, _, rfl, _⟩ := h; rfl) | (obtain ⟨_, _, _, _, _, _, _, _, _, _, _, rfl, _⟩ := h; rfl) | (obtain ⟨_, _, _, _, _, _, _, _, _, _, _, _, rfl, _⟩ := h; rfl) | (obtain ⟨_, _, _, _, _, _, _, _, _, _, _, _, _, rfl, _⟩ := h; rfl) | (obtain ⟨_, _, _, _, _, _, _, _, _, _, _, _, _, _, rfl, _⟩ := h; rfl) | (obtain ⟨_, _, _, _, _, _, _, _, _, _, _, _, _, _, _, rfl, _⟩ := h; rfl) | (obtain ⟨_, _, _, _, _, _, _, _, _, _, _, _, _, _, _, _, rfl, _⟩ := h; rfl) | (obtain ⟨_, _, _, _, _, _, _, _, _, _, _, _, _, _, _, _, _, rfl, _⟩ := h; rfl) | (obtain ⟨_, _, _, _, _, _, _, _, _, _, _, _, _, _, _, _, _, _, rfl, _⟩ := h; rfl) | (obtain ⟨_, _, _, _, _, _, _, _, _, _, _, _, _, _, _, _, _, _, _, rfl, _⟩ := h; rfl) | (obtain ⟨_, _, _, _, _, _, _, _, _, _, _, _, _, _, _, _, _, _, _, _, rfl, _⟩ := h; rfl) | (obtain ⟨_, _, _, _, _, _, _, _, _, _, _, _, _, _, _, _, _, _, _, _, _, rfl, _⟩ := h; rfl) | (obtain ⟨_, _, _, _, _, _, _, _, _, _, _, _, _, _, _, _, _, _, _, _, _, _, rfl, _⟩ := h; rfl) | (obtain ⟨_, _, _, _, _, _, _, _, _, _, _, _, _, _, _, _, _, _, _, _, _, _, _, rfl, _⟩ := h; rfl) | (obtain ⟨_, _, _, _, _, _, _, _, _, _, _, _, _, _, _, _, _, _, _, _, _, _, _, _, rfl, _⟩ := h; rfl) | (obtain ⟨_, _, _, _, _, _, _, _, _, _, _, _, _, _, _, _, _, _, _, _, _, _, _, _, _, rfl, _⟩ := h; rfl) | (obtain ⟨_, _, _, _, _, _, _, _, _, _, _, _, _, _, _, _, _, _, _, _, _, _, _, _, _, _, rfl, _⟩ := h; rfl) | (obtain ⟨_, _, _, _, _, _, _, _, _, _, _, _, _, _, _, _, _, _, _, _, _, _, _, _, _, _, _, rfl, _⟩ := h; rfl) | (obtain ⟨_, _, _, _, _, _, _, _, _, _, _, _, _, _, _, _, _, _, _, _, _, _, _, _, _, _, _, _, rfl, _⟩ := h; rfl) | (obtain ⟨_, _, _, _, _, _, _, _, _, _, _, _, _, _, _, _, _, _, _, _, _, _, _, _, _, _, _, _, _, rfl, _⟩ := h; rfl) | (obtain ⟨_, _, _, _, _, _, _, _, _, _, _, _, _, _, _, _, _, _, _, _, _, _, _, _, _, _, _, _, _, _, rfl, _⟩ := h; rfl) | (obtain ⟨_, _, _, _, _, _, _, _, _, _, _, _, _, _, _, _, _, _, _, _, _, _, _, _, _, _, _, _, _, _, _, rfl, _⟩ := h; rfl)) (fun cdv A' outer s H vs Q E hr h => ⟨t__law_offsets K A, ?_, rd__law_offsets h⟩)
  unfold t__law_offsets
  exact (pss_cons (ps_set (i := 1) sc__law_offsets.nd rfl (Or.inl rfl) (pe_lst pa_nil))
  (pss_cons (ps_set (i := 2) sc__law_offsets.nd rfl (Or.inl rfl) pe_int)
  (pss_cons (ps_for PassesOwn.never rfl (i_list (pi_list (pn 0))) (pg_name (i := 3) sc__law_offsets.nd rfl (Or.inl rfl))
    (pss_cons (ps_expr (pe_bm PySem.F.plainAttrs_list PySem.F.slot_list_append PySem.F.type_list_append mt_append (pn 1) (pa_cons (pn 2) pa_nil)))
  (pss_one (ps_set (i := 2) sc__law_offsets.nd rfl (Or.inl rfl) (pe_op o_add (pn 2) (pe_op o_mul pe_int (pe_ix ix_seq (pn 3) pe_int (fun _ _ => rfl))))))))
  (pss_one (ps_ret (pn 1))))))
theorem ok__law_body (T : Top K mg A W) : FnOk P w K mg base CX0 2 W.a__law_body W.d__law_body ["_law_box", "_law_data", "_law_rows", "_law_at"] (sp__law_body K A) := by
  refine T.F__law_body.ok sc__law_body (fun vs H Q E h => by first | (obtain ⟨rfl, _⟩ := h; rfl) | (obtain ⟨_, rfl, _⟩ := h; rfl) | (obtain ⟨_, _, rfl, _⟩ := h; rfl) | (obtain ⟨_, _, _, rfl, _⟩ := h; rfl) | (obtain ⟨_, _, _, _, rfl, _⟩ := h; rfl) | (obtain ⟨_, _, _, _, _, rfl, _⟩ := h; rfl) | (obtain ⟨_, _, _, _, _, _, rfl, _⟩ := h; rfl) | (obtain ⟨_, _, _, _, _, _, _, rfl, _⟩ := h; rfl) | (obtain ⟨_, _, _, _, _, _, _, _, rfl, _⟩ := h; rfl) | (obtain ⟨_, _, _, _, _, _, _, _, _, rfl, _⟩ := h; rfl) | (obtain ⟨_, _, _, _, _, _, _, _, _, _, rfl, _⟩ := h; rfl) | (obtain ⟨_, _, _, _, _, _, _, _, _, _, _, rfl, _⟩ := h; rfl) | (obtain ⟨_, _, _, _, _, _, _, _, _, _, _, _, rfl, _⟩ := h; rfl) | (obtain ⟨_, _, _, _, _, _, _, _, _, _, _, _, _, rfl, _⟩ := h; rfl) | (obtain ⟨_, _, _, _, _, _, _, _, _, _, _, _, _, _, rfl, _⟩ := h; rfl) | (obtain ⟨_, _, _, _, _, _, _, _, _, _, _, _, _, _, _, rfl, _⟩ := h; rfl) | (obtain ⟨_, _, _, _, _, _, _, _, _, _, _, _, _, _, _, _, rfl, _⟩ := h; rfl) | (obtain ⟨_, _, _, _, _, _, _, _, _, _, _, _, _, _, _, _, _, rfl, _⟩ := h; rfl) | (obtain ⟨_, _, _, _, _, _, _, _, _, _, _, _, _, _, _, _, _, _, rfl, _⟩ := h; rfl) | (obtain ⟨_, _, _, _, _, _, _, _, _, _, _, _, _, _, _, _, _, _, _, rfl, _⟩ := h; rfl) | (obtain ⟨_, _, _, _, _, _, _, _, _, _, _, _, _, _, _, _, _, _, _, _, rfl, _⟩ := h; rfl) | (obtain ⟨_, _, _, _, _, _, _, _, _, _, _, _, _, _, _, _, _, _, _, _, _, rfl, _⟩ := h; rfl) | (obtain ⟨_, _, _, _, _, _, _, _, _, _, _, _, _, _, _, _, _, _, _, _, _, _, rfl, _⟩ := h; rfl) | (obtain ⟨_, _, _, _, _, _, _, _, _, _, _, _, _, _, _, _, _, _, _, _, _, _, _, rfl, _⟩ := h; rfl) | (obtain ⟨_, _, _, _, _, _, _, _, _, _, _, _, _, _, _, _, _, _, _, _, _, _, _, _, rfl, _⟩ := h; rfl) | (obtain ⟨_, _, _, _, _, _, _, _, _, _, _, _, _, _, _, _, _, _, _, _, _, _, _, _, _, rfl, _⟩ := h; rfl) | (obtain ⟨_, _, _, _, _, _, _, _, _, _, _, _, _, _, _, _, _, _, _, _, _, _, _, _, _, _, rfl, _⟩ := h; rfl) | (obtain ⟨_, _, _, _, _, _, _, _, _, _, _, _, _, _, _, _, _, _, _, _, _, _, _, _, _, _, _, rfl, _⟩ := h; rfl) | (obtain ⟨_, _, _, _, _, _, _, _, _, _, _, _, _, _, _, _, _, _, _, _, _, _, _, _, _, _, _, _, rfl, _⟩ := h; rfl) | (obtain ⟨_, _, _, _, _, _, _, _, _, _, _, _, _, _, _, _, _, _, _, _, _, _, _, _, _, _, _, _, _, rfl, _⟩ := h; rfl) | (obtain ⟨_, _, _, _, _, _, _, _, _, _, _, _, _, _, _, _, _, _, _, _, _, _, _, _, _, _, _, _, _, _, rfl, _⟩ := h; rfl) | (obtain ⟨_, _, _, _, _, _, _, _, _, _, _, _, _, _, _, _, _, _, _, _, _, _, _, _, _, _, _, _, _, _, _, rfl, _⟩ := h; rfl)) (fun cdv A' outer s H vs Q E hr h => ⟨t__law_body K A, ?_, rd__law_body h⟩)
  unfold t__law_body
  exact (pss_one (ps_for PassesOwn.never rfl (i_rng1 (pi_range1 (by rfl) T.n_range (pa_cons (pe_callB c_len (by rfl) T.n_len (by decide +kernel) (pa_cons (pe_ix ix_seq (pe_ix ix_seq (pn 2) (pn 3) (fun _ _ => rfl)) pe_int (fun _ _ => rfl)) pa_nil)) pa_nil))) (pg_name (i := 4) sc__law_body.nd rfl (Or.inl rfl))
    (pss_one (p_if (m_test (pt_cmpR (o_eq hr.units) (pe_call (ok__law_draw T) (hr.mono (by decide)) (by rfl) T.m__law_draw T.F__law_draw.kp T.b__law_draw .nil pass0 (pa_cons (pn 0) (pa_cons pe_int pa_nil))) pe_int (nomark _)))
    (pss_cons (ps_asg (pe_call (ok__law_draw T) (hr.mono (by decide)) (by rfl) T.m__law_draw T.F__law_draw.kp T.b__law_draw .nil pass0 (pa_cons (pn 0) (pa_cons pe_int pa_nil))) (pg_sub (pe_ix ix_seq (pe_ix ix_seq (pn 2) (pn 3) (fun _ _ => rfl)) pe_int (fun _ _ => rfl)) (pn 4) set_list))
  (pss_one (ps_asg (pe_ix ix_seq (pe_ix ix_seq (pe_ix ix_seq (pn 2) (pn 3) (fun _ _ => rfl)) pe_int (fun _ _ => rfl)) (pn 4) (fun _ _ => rfl)) (pg_sub (pn 1) (pe_op o_add (pe_op o_add (pe_ix ix_seq (pe_call (ok__law_offsets T) (hr.mono (by decide)) (by rfl) T.m__law_offsets T.F__law_offsets.kp T.b__law_offsets .nil pass0 (pa_cons (pn 2) pa_nil)) (pn 3) (fun _ _ => rfl)) pe_int) (pn 4)) set_list))))
    pss_nil))))
theorem ok__law_right (T : Top K mg A W) : FnG P w K mg base 5 W.a__law_right W.d__law_right ["_law_data", "_law_rows"] (sp__law_right K A) := by
  refine okG T.F__law_right sc__law_right (fun vs H Q E h => by first | (obtain ⟨rfl, _⟩ := h; rfl) | (obtain ⟨_, rfl, _⟩ := h; rfl) | (obtain ⟨_, _, rfl, _⟩ := h; rfl) | (obtain ⟨_, _, _, rfl, _⟩ := h; rfl) | (obtain ⟨_, _, _, _, rfl, _⟩ := h; rfl) | (obtain ⟨_, _, _, _, _, rfl, _⟩ := h; rfl) | (obtain ⟨_, _, _, _, _, _, rfl, _⟩ := h; rfl) | (obtain ⟨_, _, _, _, _, _, _, rfl, _⟩ := h; rfl) | (obtain ⟨_, _, _, _, _, _, _, _, rfl, _⟩ := h; rfl) | (obtain ⟨_, _, _, _, _, _, _, _, _, rfl, _⟩ := h; rfl) | (obtain ⟨_, _, _, _, _, _, _, _, _, _, rfl, _⟩ := h; rfl) | (obtain ⟨_, _, _, _, _, _, _, _, _, _, _, rfl, _⟩ := h; rfl) | (obtain ⟨_, _, _, _, _, _, _, _, _, _, _, _, rfl, _⟩ := h; rfl) | (obtain ⟨_, _, _, _, _, _, _, _, _, _, _, _, _, rfl, _⟩ := h; rfl) | (obtain ⟨_, _, _, _, _, _, _, _, _, _, _, _, _, _, rfl, _⟩ := h; rfl) | (obtain ⟨_, _, _, _, _, _, _, _, _, _, _, _, _, _, _, rfl, _⟩ := h; rfl) | (obtain ⟨_, _, _, _, _, _, _, _, _, _, _, _, _, _, _, _, rfl, _⟩ := h; rfl) | (obtain ⟨_, _, _, _, _, _, _, _, _, _, _, _, _, _, _, _, _, rfl, _⟩ := h; rfl) | (obtain ⟨_, _, _, _, _, _, _, _, _, _, _, _, _, _, _, _, _, _, rfl, _⟩ := h; rfl) | (obtain ⟨_, _, _, _, _, _, _, _, _, _, _, _, _, _, _, _, _, _, _, rfl, _⟩ := h; rfl) | (obtain ⟨_, _, _, _, _, _, _, _, _, _, _, _, _, _, _, _, _, _, _, _, rfl, _⟩ := h; rfl) | (obtain ⟨_, _, _, _, _, _, _, _, _, _, _, _, _, _, _, _, _, _, _, _, _, rfl, _⟩ := h; rfl) | (obtain ⟨_, _, _, _, _, _, _, _, _, _, _, _, _, _, _, _, _, _, _, _, _, _, rfl, _⟩ := h; rfl) | (obtain ⟨_, _, _, _, _, _, _, _, _, _, _, _, _, _, _, _, _, _, _, _, _, _, _, rfl, _⟩ := h; rfl) | (obtain ⟨_, _, _, _, _, _, _, _, _, _, _, _, _, _, _, _, _, _, _, _, _, _, _, _, rfl, _⟩ := h; rfl) | (obtain ⟨_, _, _, _, _, _, _, _, _, _, _, _, _, _, _, _, _, _, _, _, _, _, _, _, _, rfl, _⟩ := h; rfl) | (obtain ⟨_, _, _, _, _, _, _, _, _, _, _, _, _, _, _, _, _, _, _, _, _, _, _, _, _, _, rfl, _⟩ := h; rfl) | (obtain ⟨_, _, _, _, _, _, _, _, _, _, _, _, _, _, _, _, _, _, _, _, _, _, _, _, _, _, _, rfl, _⟩ := h; rfl) | (obtain ⟨_, _, _, _, _, _, _, _, _, _, _, _, _, _, _, _, _, _, _, _, _, _, _, _, _, _, _, _, rfl, _⟩ := h; rfl) | (obtain ⟨_, _, _, _, _, _, _, _, _, _, _, _, _, _, _, _, _, _, _, _, _, _, _, _, _, _, _, _, _, rfl, _⟩ := h; rfl) | (obtain ⟨_, _, _, _, _, _, _, _, _, _, _, _, _, _, _, _, _, _, _, _, _, _, _, _, _, _, _, _, _, _, rfl, _⟩ := h; rfl) | (obtain ⟨_, _, _, _, _, _, _, _, _, _, _, _, _, _, _, _, _, _, _, _, _, _, _, _, _, _, _, _, _, _, _, rfl, _⟩ := h; rfl)) (fun cdv A' outer s H vs Q E hr hg h => ⟨t__law_right K A, ?_, rd__law_right h⟩)
  unfold t__law_right
  exact (pss_cons (p_if (m_test (pt_cmpR (o_ne hr.units) (pn 0) (pe_call (ok__law_written T) (hr.mono (by decide)) (by rfl) T.m__law_written T.F__law_written.kp T.b__law_written .nil pass0 (pa_cons (pn 1) pa_nil)) (nomark _)))
    (pss_one (ps_ret pe_bl))
    pss_nil)
  (pss_cons (ps_set (i := 2) sc__law_right.nd rfl (Or.inr rfl) (pe_call (ok__law_offsets T) (hr.mono (by decide)) (by rfl) T.m__law_offsets T.F__law_offsets.kp T.b__law_offsets .nil pass0 (pa_cons (pn 1) pa_nil)))
  (pss_cons (ps_set (i := 3) sc__law_right.nd rfl (Or.inl rfl) (pe_lst pa_nil))
  (pss_cons (ps_for PassesOwn.never rfl (i_rng1 (pi_range1 (by rfl) T.n_range (pa_cons (pe_callB c_len (by rfl) T.n_len (by decide +kernel) (pa_cons (pn 1) pa_nil)) pa_nil))) (pg_name (i := 4) sc__law_right.nd rfl (Or.inl rfl))
    (pss_one (ps_expr (pe_bm PySem.F.plainAttrs_list PySem.F.slot_list_append PySem.F.type_list_append mt_append (pn 3) (pa_cons (pe_tup (pa_cons (pe_ix ix_seq (pn 2) (pn 4) (fun _ _ => rfl)) (pa_cons (pe_op o_mul pe_int (pe_ix ix_seq (pe_ix ix_seq (pn 1) (pn 4) (fun _ _ => rfl)) pe_int (fun _ _ => rfl))) (pa_cons (pe_ix ix_seq (pe_ix ix_seq (pn 1) (pn 4) (fun _ _ => rfl)) pe_int (fun _ _ => rfl)) (pa_cons (pe_ix ix_seq (pe_ix ix_seq (pn 1) (pn 4) (fun _ _ => rfl)) pe_int (fun _ _ => rfl)) pa_nil))))) pa_nil)))))
  (pss_cons (p_if (pt_not (p_truth (pe_callG (ok__law_list_is T) hg (hr.mono (by decide)) (by rfl) T.m__law_list_is T.F__law_list_is.kp T.b__law_list_is .nil (pa_cons (pe_call (ok_blocks T) (hr.mono (by decide)) (by rfl) T.m_blocks T.F_blocks.kp T.b_blocks .nil pass0 (pa_cons (pn 0) pa_nil)) (pa_cons (pn 3) pa_nil))) (by intro _; rfl)))
    (pss_one (ps_ret pe_bl))
    pss_nil)
  (pss_cons (p_if (pt_not (p_truth (pe_callG (ok__law_same T) hg (hr.mono (by decide)) (by rfl) T.m__law_same T.F__law_same.kp T.b__law_same .nil (pa_cons (pe_call (ok_used T) (hr.mono (by decide)) (by rfl) T.m_used T.F_used.kp T.b_used .nil pass0 (pa_cons (pn 0) pa_nil)) (pa_cons (pe_op o_mul pe_int (pe_call (ok__law_units T) (hr.mono (by decide)) (by rfl) T.m__law_units T.F__law_units.kp T.b__law_units .nil pass0 (pa_cons (pe_lc (own := [("_law_row", 8)]) (g := (gName 8)) (tt := (mTest (tOp (mNe K) (tOp (rIx K) (mV 8) (tC (.int 3))) (tC (.int 0))))) rfl sc__law_right.nd (i_list (pi_list (pn 1))) (blkOk_by (own := [("_law_row", 8)]) (N := nm__law_right) (sc := defScope s__law_right) (by decide +kernel)) (fun _ _ _ _ _ => (pg_name (i := 8) sc__law_right.nd rfl (Or.inl rfl))) (fun _ _ _ _ _ => (pts_one (m_test (pt_cmpR (o_ne hr.units) (pe_ix ix_seq (pn 8) pe_int (fun _ _ => rfl)) pe_int (nomark _))))) (fun _ _ _ _ _ => (pn 8))) pa_nil))) pa_nil))) (by intro _; rfl)))
    (pss_one (ps_ret pe_bl))
    pss_nil)
  (pss_cons (ps_for PassesOwn.never rfl (i_rng2 (pi_range2 (by rfl) T.n_range (pa_cons pe_int (pa_cons pe_int pa_nil)))) (pg_name (i := 5) sc__law_right.nd rfl (Or.inr rfl))
    (pss_one (ps_for PassesOwn.never rfl (i_list (pi_list (pe_lst (pa_cons pe_int (pa_cons pe_int (pa_cons pe_int (pa_cons pe_int pa_nil))))))) (pg_name (i := 6) sc__law_right.nd rfl (Or.inr rfl))
    (pss_cons (ps_setLc (i := 7) (own := [("_law_k", 4)]) (g := (gName 4)) (tt := (tAnd (mTest (tOp (mEq K) (tOp (rIx K) (tOp (rIx K) (mV 1) (mV 4)) (tC (.int 3))) (mV 5))) (mTest (tOp (mEq K) (tOp (rIx K) (tOp (rIx K) (mV 1) (mV 4)) (tC (.int 2))) (mV 6))))) rfl sc__law_right.nd rfl rfl (sw_true rfl rfl rfl (by decide +kernel)) (i_rng1 (pi_range1 (by rfl) T.n_range (pa_cons (pe_callB c_len (by rfl) T.n_len (by decide +kernel) (pa_cons (pn 1) pa_nil)) pa_nil))) (blkOk_by (own := [("_law_k", 4)]) (N := nm__law_right) (sc := defScope s__law_right) (by decide +kernel)) (fun _ _ _ _ _ => (pg_name (i := 4) sc__law_right.nd rfl (Or.inl rfl))) (fun _ _ _ _ _ => (pts_one (PW.pt (pw_and (m_test (pt_cmpR (o_eq hr.units) (pe_ix ix_seq (pe_ix ix_seq (pn 1) (pn 4) (fun _ _ => rfl)) pe_int (fun _ _ => rfl)) (pn 5) (nomark _))) (pw_and1 (m_test (pt_cmpR (o_eq hr.units) (pe_ix ix_seq (pe_ix ix_seq (pn 1) (pn 4) (fun _ _ => rfl)) pe_int (fun _ _ => rfl)) (pn 6) (nomark _)))))))) (fun _ _ _ _ _ => (pe_ix ix_seq (pn 2) (pn 4) (fun _ _ => rfl))))
  (pss_one (p_if (PW.pt (pw_and (m_test (pt_cmpR o_lt (pe_callB c_len (by rfl) T.n_len (by decide +kernel) (pa_cons (pn 7) pa_nil)) pe_int (nomark _))) (pw_and1 (pt_not (p_truth (pe_callG (ok__law_same T) hg (hr.mono (by decide)) (by rfl) T.m__law_same T.F__law_same.kp T.b__law_same .nil (pa_cons (pe_call (ok_find_block T) (hr.mono (by decide)) (by rfl) T.m_find_block T.F_find_block.kp T.b_find_block .nil pass0 (pa_cons (pn 0) (pa_cons (pn 5) (pa_cons (pn 6) pa_nil)))) (pa_cons (pe_ix ix_seq (pe_op o_add (pn 7) (pe_lst (pa_cons pe_non pa_nil))) pe_int (fun _ _ => rfl)) pa_nil))) (by intro _; rfl))))))
    (pss_one (ps_ret pe_bl))
    pss_nil))))))
  (pss_one (ps_ret pe_bl)))))))))
theorem ok_law (T : Top K mg A W) : FnG P w K mg base 7 W.a_law W.d_law ["_law_script"] (sp_law K A) := by
  refine okG T.F_law sc_law (fun vs H Q E h => by first | (obtain ⟨rfl, _⟩ := h; rfl) | (obtain ⟨_, rfl, _⟩ := h; rfl) | (obtain ⟨_, _, rfl, _⟩ := h; rfl) | (obtain ⟨_, _, _, rfl, _⟩ := h; rfl) | (obtain ⟨_, _, _, _, rfl, _⟩ := h; rfl) | (obtain ⟨_, _, _, _, _, rfl, _⟩ := h; rfl) | (obtain ⟨_, _, _, _, _, _, rfl, _⟩ := h; rfl) | (obtain ⟨_, _, _, _, _, _, _, rfl, _⟩ := h; rfl) | (obtain ⟨_, _, _, _, _, _, _, _, rfl, _⟩ := h; rfl) | (obtain ⟨_, _, _, _, _, _, _, _, _, rfl, _⟩ := h; rfl) | (obtain ⟨_, _, _, _, _, _, _, _, _, _, rfl, _⟩ := h; rfl) | (obtain ⟨_, _, _, _, _, _, _, _, _, _, _, rfl, _⟩ := h; rfl) | (obtain ⟨_, _, _, _, _, _, _, _, _, _, _, _, rfl, _⟩ := h; rfl) | (obtain ⟨_, _, _, _, _, _, _, _, _, _, _, _, _, rfl, _⟩ := h; rfl) | (obtain ⟨_, _, _, _, _, _, _, _, _, _, _, _, _, _, rfl, _⟩ := h; rfl) | (obtain ⟨_, _, _, _, _, _, _, _, _, _, _, _, _, _, _, rfl, _⟩ := h; rfl) | (obtain ⟨_, _, _, _, _, _, _, _, _, _, _, _, _, _, _, _, rfl, _⟩ := h; rfl) | (obtain ⟨_, _, _, _, _, _, _, _, _, _, _, _, _, _, _, _, _, rfl, _⟩ := h; rfl) | (obtain ⟨_, _, _, _, _, _, _, _, _, _, _, _, _, _, _, _, _, _, rfl, _⟩ := h; rfl) | (obtain ⟨_, _, _, _, _, _, _, _, _, _, _, _, _, _, _, _, _, _, _, rfl, _⟩ := h; rfl) | (obtain ⟨_, _, _, _, _, _, _, _, _, _, _, _, _, _, _, _, _, _, _, _, rfl, _⟩ := h; rfl) | (obtain ⟨_, _, _, _, _, _, _, _, _, _, _, _, _, _, _, _, _, _, _, _, _, rfl, _⟩ := h; rfl) | (obtain ⟨_, _, _, _, _, _, _, _, _, _, _, _, _, _, _, _, _, _, _, _, _, _, rfl, _⟩ := h; rfl) | (obtain ⟨_, _, _, _, _, _, _, _, _, _, _, _, _, _, _, _, _, _, _, _, _, _, _, rfl, _⟩ := h; rfl) | (obtain ⟨_, _, _, _, _, _, _, _, _, _, _, _, _, _, _, _, _, _, _, _, _, _, _, _, rfl, _⟩ := h; rfl) | (obtain ⟨_, _, _, _, _, _, _, _, _, _, _, _, _, _, _, _, _, _, _, _, _, _, _, _, _, rfl, _⟩ := h; rfl) | (obtain ⟨_, _, _, _, _, _, _, _, _, _, _, _, _, _, _, _, _, _, _, _, _, _, _, _, _, _, rfl, _⟩ := h; rfl) | (obtain ⟨_, _, _, _, _, _, _, _, _, _, _, _, _, _, _, _, _, _, _, _, _, _, _, _, _, _, _, rfl, _⟩ := h; rfl) | (obtain ⟨_, _, _, _, _, _, _, _, _, _, _, _, _, _, _, _, _, _, _, _, _, _, _, _, _, _, _, _, rfl, _⟩ := h; rfl) | (obtain ⟨_, _, _, _, _, _, _, _, _, _, _, _, _, _, _, _, _, _, _, _, _, _, _, _, _, _, _, _, _, rfl, _⟩ := h; rfl) | (obtain ⟨_, _, _, _, _, _, _, _, _, _, _, _, _, _, _, _, _, _, _, _, _, _, _, _, _, _, _, _, _, _, rfl, _⟩ := h; rfl) | (obtain ⟨_, _, _, _, _, _, _, _, _, _, _, _, _, _, _, _, _, _, _, _, _, _, _, _, _, _, _, _, _, _, _, rfl, _⟩ := h; rfl)) (fun cdv A' outer s H vs Q E hr hg h => ⟨t_law K A, ?_, rd_law h⟩)
  unfold t_law
  exact (pss_cons (ps_set (i := 1) sc_law.nd rfl (Or.inl rfl) (pe_lst (pa_cons (pe_call (ok__law_digits T) (hr.mono (by decide)) (by rfl) T.m__law_digits T.F__law_digits.kp T.b__law_digits .nil pass0 (pa_cons (pn 0) (pa_cons pe_int (pa_cons pe_int pa_nil)))) (pa_cons pe_int pa_nil))))
  (pss_cons (ps_set (i := 2) sc_law.nd rfl (Or.inl rfl) (pe_op o_add pe_int (pe_call (ok__law_draw T) (hr.mono (by decide)) (by rfl) T.m__law_draw T.F__law_draw.kp T.b__law_draw .nil pass0 (pa_cons (pn 1) (pa_cons pe_int pa_nil)))))
  (pss_cons (ps_set (i := 3) sc_law.nd rfl (Or.inl rfl) (pe_call (ok_empty T) (hr.mono (by decide)) (by rfl) T.m_empty T.F_empty.kp T.b_empty .nil pass0 (pa_cons (pe_op o_mul pe_int (pn 2)) pa_nil)))
  (pss_cons (ps_set (i := 4) sc_law.nd rfl (Or.inr rfl) (pe_lst (pa_cons (pe_lst (pa_cons (pn 2) (pa_cons pe_int (pa_cons pe_int (pa_cons pe_int (pa_cons (pe_lst pa_nil) pa_nil)))))) pa_nil)))
  (pss_cons (ps_for PassesOwn.never rfl (i_rng1 (pi_range1 (by rfl) T.n_range (pa_cons (pe_call (ok__law_draw T) (hr.mono (by decide)) (by rfl) T.m__law_draw T.F__law_draw.kp T.b__law_draw .nil pass0 (pa_cons (pn 1) (pa_cons pe_int pa_nil))) pa_nil))) (pg_name (i := 5) sc_law.nd rfl (Or.inl rfl))
    (pss_cons (ps_set (i := 6) sc_law.nd rfl (Or.inl rfl) (pe_call (ok__law_draw T) (hr.mono (by decide)) (by rfl) T.m__law_draw T.F__law_draw.kp T.b__law_draw .nil pass0 (pa_cons (pn 1) (pa_cons pe_int pa_nil))))
  (pss_cons (ps_setLc (i := 7) (own := [("_law_k", 13)]) (g := (gName 13)) (tt := (mTest (tOp (mNe K) (tOp (rIx K) (tOp (rIx K) (mV 4) (mV 13)) (tC (.int 3))) (tC (.int 0))))) rfl sc_law.nd rfl rfl (sw_true rfl rfl rfl (by decide +kernel)) (i_rng1 (pi_range1 (by rfl) T.n_range (pa_cons (pe_callB c_len (by rfl) T.n_len (by decide +kernel) (pa_cons (pn 4) pa_nil)) pa_nil))) (blkOk_by (own := [("_law_k", 13)]) (N := nm_law) (sc := defScope s_law) (by decide +kernel)) (fun _ _ _ _ _ => (pg_name (i := 13) sc_law.nd rfl (Or.inl rfl))) (fun _ _ _ _ _ => (pts_one (m_test (pt_cmpR (o_ne hr.units) (pe_ix ix_seq (pe_ix ix_seq (pn 4) (pn 13) (fun _ _ => rfl)) pe_int (fun _ _ => rfl)) pe_int (nomark _))))) (fun _ _ _ _ _ => (pn 13)))
  (p_cut (p_if (m_test (pt_cmpR o_lt (pn 6) pe_int (nomark _)))
    (pss_cons (ps_set (i := 8) sc_law.nd rfl (Or.inl rfl) (pe_lst (pa_cons (pe_op o_add pe_int (pe_call (ok__law_draw T) (hr.mono (by decide)) (by rfl) T.m__law_draw T.F__law_draw.kp T.b__law_draw .nil pass0 (pa_cons (pn 1) (pa_cons pe_int pa_nil)))) (pa_cons (pe_op o_add pe_int (pe_call (ok__law_draw T) (hr.mono (by decide)) (by rfl) T.m__law_draw T.F__law_draw.kp T.b__law_draw .nil pass0 (pa_cons (pn 1) (pa_cons pe_int pa_nil)))) (pa_cons (pe_ix ix_seq (pe_lst (pa_cons pe_int (pa_cons pe_int (pa_cons pe_int (pa_cons pe_int pa_nil))))) (pe_call (ok__law_draw T) (hr.mono (by decide)) (by rfl) T.m__law_draw T.F__law_draw.kp T.b__law_draw .nil pass0 (pa_cons (pn 1) (pa_cons pe_int pa_nil))) (fun _ _ => rfl)) (pa_cons (pe_op o_add pe_int (pe_call (ok__law_draw T) (hr.mono (by decide)) (by rfl) T.m__law_draw T.F__law_draw.kp T.b__law_draw .nil pass0 (pa_cons (pn 1) (pa_cons pe_int pa_nil)))) pa_nil))))))
  (pss_cons (ps_set (i := 9) sc_law.nd rfl (Or.inl rfl) (pe_call (ok__law_taken T) (hr.mono (by decide)) (by rfl) T.m__law_taken T.F__law_taken.kp T.b__law_taken .nil pass0 (pa_cons (pn 4) (pa_cons (pn 2) (pa_cons (pe_ix ix_seq (pn 8) pe_int (fun _ _ => rfl)) (pa_cons (pe_ix ix_seq (pn 8) pe_int (fun _ _ => rfl)) (pa_cons (pe_ix ix_seq (pn 8) pe_int (fun _ _ => rfl)) (pa_cons (pe_ix ix_seq (pn 8) pe_int (fun _ _ => rfl)) pa_nil))))))))
  (pss_cons (ps_set (i := 10) sc_law.nd rfl (Or.inl rfl) (pe_call (ok__law_take T) (hr.mono (by decide)) (by rfl) T.m__law_take T.F__law_take.kp T.b__law_take .nil pass0 (pa_cons (pn 3) (pa_cons (pe_ix ix_seq (pn 8) pe_int (fun _ _ => rfl)) (pa_cons (pe_ix ix_seq (pn 8) pe_int (fun _ _ => rfl)) (pa_cons (pe_ix ix_seq (pn 8) pe_int (fun _ _ => rfl)) (pa_cons (pe_ix ix_seq (pn 8) pe_int (fun _ _ => rfl)) pa_nil)))))))
  (pss_one (p_if (m_test (pt_cmpR o_isN (pn 9) pe_non (nomark _)))
    (pss_one (p_if (m_test (pt_cmpR (o_ne hr.units) (pn 10) pe_str (nomark _)))
    (pss_one (ps_ret pe_bl))
    pss_nil))
    (pss_cons (ps_set (i := 4) sc_law.nd rfl (Or.inr rfl) (pe_ix ix_seq (pn 9) pe_int (fun _ _ => rfl)))
  (pss_cons (p_if (pt_not (p_truth (pe_callG (ok__law_same T) hg (hr.mono (by decide)) (by rfl) T.m__law_same T.F__law_same.kp T.b__law_same .nil (pa_cons (pn 10) (pa_cons (pe_ix ix_seq (pe_call (ok__law_offsets T) (hr.mono (by decide)) (by rfl) T.m__law_offsets T.F__law_offsets.kp T.b__law_offsets .nil pass0 (pa_cons (pn 4) pa_nil)) (pe_ix ix_seq (pn 9) pe_int (fun _ _ => rfl)) (fun _ _ => rfl)) pa_nil))) (by intro _; rfl)))
    (pss_one (ps_ret pe_bl))
    pss_nil)
  (pss_one (ps_expr (pe_call (ok__law_body T) (hr.mono (by decide)) (by rfl) T.m__law_body T.F__law_body.kp T.b__law_body .nil pass0 (pa_cons (pn 1) (pa_cons (pn 3) (pa_cons (pn 4) (pa_cons (pe_ix ix_seq (pn 9) pe_int (fun _ _ => rfl)) pa_nil))))))))))))))
    (pss_one (p_if (PW.pt (pw_and (m_test (pt_cmpR o_lt (pn 6) pe_int (nomark _))) (pw_and1 (m_test (pt_cmpR o_gt (pe_callB c_len (by rfl) T.n_len (by decide +kernel) (pa_cons (pn 7) pa_nil)) pe_int (nomark _))))))
    (pss_cons (ps_set (i := 11) sc_law.nd rfl (Or.inl rfl) (pe_ix ix_seq (pn 7) (pe_op o_mod (pe_callTy c_int (by rfl) T.n_int (by decide +kernel) (pa_cons (pe_call (ok__law_draw T) (hr.mono (by decide)) (by rfl) T.m__law_draw T.F__law_draw.kp T.b__law_draw .nil pass0 (pa_cons (pn 1) (pa_cons pe_int pa_nil))) pa_nil)) (pe_callB c_len (by rfl) T.n_len (by decide +kernel) (pa_cons (pn 7) pa_nil))) (fun _ _ => rfl)))
  (pss_cons (ps_expr (pe_call (ok_give_back T) (hr.mono (by decide)) (by rfl) T.m_give_back T.F_give_back.kp T.b_give_back .nil pass0 (pa_cons (pn 3) (pa_cons (pe_ix ix_seq (pe_call (ok__law_offsets T) (hr.mono (by decide)) (by rfl) T.m__law_offsets T.F__law_offsets.kp T.b__law_offsets .nil pass0 (pa_cons (pn 4) pa_nil)) (pn 11) (fun _ _ => rfl)) pa_nil))))
  (pss_one (ps_set (i := 4) sc_law.nd rfl (Or.inr rfl) (pe_call (ok__law_joined T) (hr.mono (by decide)) (by rfl) T.m__law_joined T.F__law_joined.kp T.b__law_joined .nil pass0 (pa_cons (pe_op o_add (pe_op o_add (pe_slice o_sl (pn 4) po_none (p_some (pn 11))) (pe_lst (pa_cons (pe_lst (pa_cons (pe_ix ix_seq (pe_ix ix_seq (pn 4) (pn 11) (fun _ _ => rfl)) pe_int (fun _ _ => rfl)) (pa_cons pe_int (pa_cons pe_int (pa_cons pe_int (pa_cons (pe_lst pa_nil) pa_nil)))))) pa_nil))) (pe_slice o_sl (pn 4) (p_some (pe_op o_add (pn 11) pe_int)) po_none)) pa_nil))))))
    (pss_one (p_if (m_test (pt_cmpR (o_eq hr.units) (pn 6) pe_int (nomark _)))
    (pss_cons (ps_expr (pe_call (ok_push_together T) (hr.mono (by decide)) (by rfl) T.m_push_together T.F_push_together.kp T.b_push_together .nil pass0 (pa_cons (pn 3) pa_nil)))
  (pss_one (ps_set (i := 4) sc_law.nd rfl (Or.inr rfl) (pe_call (ok__law_together T) (hr.mono (by decide)) (by rfl) T.m__law_together T.F__law_together.kp T.b__law_together .nil pass0 (pa_cons (pn 4) (pa_cons (pn 2) pa_nil))))))
    (pss_one (p_if (m_test (pt_cmpR o_lt (pn 2) pe_int (nomark _)))
    (pss_cons (ps_set (i := 12) sc_law.nd rfl (Or.inl rfl) (pe_op o_add pe_int (pe_call (ok__law_draw T) (hr.mono (by decide)) (by rfl) T.m__law_draw T.F__law_draw.kp T.b__law_draw .nil pass0 (pa_cons (pn 1) (pa_cons pe_int pa_nil)))))
  (pss_cons (ps_set (i := 2) sc_law.nd rfl (Or.inl rfl) (pe_op o_add (pn 2) (pn 12)))
  (pss_cons (ps_expr (pe_call (ok_grow T) (hr.mono (by decide)) (by rfl) T.m_grow T.F_grow.kp T.b_grow .nil pass0 (pa_cons (pn 3) (pa_cons (pe_op o_mul pe_int (pn 2)) pa_nil))))
  (pss_one (ps_set (i := 4) sc_law.nd rfl (Or.inr rfl) (pe_call (ok__law_joined T) (hr.mono (by decide)) (by rfl) T.m__law_joined T.F__law_joined.kp T.b__law_joined .nil pass0 (pa_cons (pe_op o_add (pn 4) (pe_lst (pa_cons (pe_lst (pa_cons (pn 12) (pa_cons pe_int (pa_cons pe_int (pa_cons pe_int (pa_cons (pe_lst pa_nil) pa_nil)))))) pa_nil))) pa_nil)))))))
    pss_nil)))))))
  (pss_one (p_if (pt_not (p_truth (pe_callG (ok__law_right T) hg (hr.mono (by decide)) (by rfl) T.m__law_right T.F__law_right.kp T.b__law_right .nil (pa_cons (pn 3) (pa_cons (pn 4) pa_nil))) (by intro _; rfl)))
    (pss_one (ps_ret pe_bl))
    pss_nil))))))
  (pss_one (ps_ret pe_bl)))))))
end
theorem all_mk {l : PySem.W.OpenLaw} {w : World} {K : PySem.W.Frag} {h : Heap} {mg : Str → Option Value} {fa : Addr} (X : K.In h) (G : h.Ns mainGlobals mg) (hfa : mg "law" = some (.ref fa))
    {C_Full C_RecordError : Addr}
    {f0 : Addr} {od0 an0 : Option Addr} {sl0 : Array (Option Value)} {oc0 kV0 dc0 pm0 cd0 ct0 : Value}
    (a0 : PySem.W.nsIn K mainGlobals "word_number" = some (some (.ref f0))) (l0 : K.lookup f0 = some ⟨oc0, od0, .func (PySem.W.fnOf "word_number" "word_number" (defArgs s_word_number) (defBody s_word_number) (defScope s_word_number) .none kV0 dc0 pm0 an0 cd0 ct0), sl0⟩) (c0 : PySem.W.codeIn K cd0 "word_number" = true) (k0 : PySem.W.keepIn K (.ref f0) = true)
    {f1 : Addr} {od1 an1 : Option Addr} {sl1 : Array (Option Value)} {oc1 kV1 dc1 pm1 cd1 ct1 : Value}
    (a1 : PySem.W.nsIn K mainGlobals "put_word_number" = some (some (.ref f1))) (l1 : K.lookup f1 = some ⟨oc1, od1, .func (PySem.W.fnOf "put_word_number" "put_word_number" (defArgs s_put_word_number) (defBody s_put_word_number) (defScope s_put_word_number) .none kV1 dc1 pm1 an1 cd1 ct1), sl1⟩) (c1 : PySem.W.codeIn K cd1 "put_word_number" = true) (k1 : PySem.W.keepIn K (.ref f1) = true)
    {f2 : Addr} {od2 an2 : Option Addr} {sl2 : Array (Option Value)} {oc2 kV2 dc2 pm2 cd2 ct2 : Value}
    (a2 : PySem.W.nsIn K mainGlobals "read_word" = some (some (.ref f2))) (l2 : K.lookup f2 = some ⟨oc2, od2, .func (PySem.W.fnOf "read_word" "read_word" (defArgs s_read_word) (defBody s_read_word) (defScope s_read_word) .none kV2 dc2 pm2 an2 cd2 ct2), sl2⟩) (c2 : PySem.W.codeIn K cd2 "read_word" = true) (k2 : PySem.W.keepIn K (.ref f2) = true)
    {f3 : Addr} {od3 an3 : Option Addr} {sl3 : Array (Option Value)} {oc3 kV3 dc3 pm3 cd3 ct3 : Value}
    (a3 : PySem.W.nsIn K mainGlobals "write_word" = some (some (.ref f3))) (l3 : K.lookup f3 = some ⟨oc3, od3, .func (PySem.W.fnOf "write_word" "write_word" (defArgs s_write_word) (defBody s_write_word) (defScope s_write_word) .none kV3 dc3 pm3 an3 cd3 ct3), sl3⟩) (c3 : PySem.W.codeIn K cd3 "write_word" = true) (k3 : PySem.W.keepIn K (.ref f3) = true)
    {f4 : Addr} {od4 an4 : Option Addr} {sl4 : Array (Option Value)} {oc4 kV4 dc4 pm4 cd4 ct4 : Value}
    (a4 : PySem.W.nsIn K mainGlobals "empty" = some (some (.ref f4))) (l4 : K.lookup f4 = some ⟨oc4, od4, .func (PySem.W.fnOf "empty" "empty" (defArgs s_empty) (defBody s_empty) (defScope s_empty) .none kV4 dc4 pm4 an4 cd4 ct4), sl4⟩) (c4 : PySem.W.codeIn K cd4 "empty" = true) (k4 : PySem.W.keepIn K (.ref f4) = true)
    {f5 : Addr} {od5 an5 : Option Addr} {sl5 : Array (Option Value)} {oc5 kV5 dc5 pm5 cd5 ct5 : Value}
    (a5 : PySem.W.nsIn K mainGlobals "offsets" = some (some (.ref f5))) (l5 : K.lookup f5 = some ⟨oc5, od5, .func (PySem.W.fnOf "offsets" "offsets" (defArgs s_offsets) (defBody s_offsets) (defScope s_offsets) .none kV5 dc5 pm5 an5 cd5 ct5), sl5⟩) (c5 : PySem.W.codeIn K cd5 "offsets" = true) (k5 : PySem.W.keepIn K (.ref f5) = true)
    {f6 : Addr} {od6 an6 : Option Addr} {sl6 : Array (Option Value)} {oc6 kV6 dc6 pm6 cd6 ct6 : Value}
    (a6 : PySem.W.nsIn K mainGlobals "block_at" = some (some (.ref f6))) (l6 : K.lookup f6 = some ⟨oc6, od6, .func (PySem.W.fnOf "block_at" "block_at" (defArgs s_block_at) (defBody s_block_at) (defScope s_block_at) .none kV6 dc6 pm6 an6 cd6 ct6), sl6⟩) (c6 : PySem.W.codeIn K cd6 "block_at" = true) (k6 : PySem.W.keepIn K (.ref f6) = true)
    {f7 : Addr} {od7 an7 : Option Addr} {sl7 : Array (Option Value)} {oc7 kV7 dc7 pm7 cd7 ct7 : Value}
    (a7 : PySem.W.nsIn K mainGlobals "blocks" = some (some (.ref f7))) (l7 : K.lookup f7 = some ⟨oc7, od7, .func (PySem.W.fnOf "blocks" "blocks" (defArgs s_blocks) (defBody s_blocks) (defScope s_blocks) .none kV7 dc7 pm7 an7 cd7 ct7), sl7⟩) (c7 : PySem.W.codeIn K cd7 "blocks" = true) (k7 : PySem.W.keepIn K (.ref f7) = true)
    {f8 : Addr} {od8 an8 : Option Addr} {sl8 : Array (Option Value)} {oc8 kV8 dc8 pm8 cd8 ct8 : Value}
    (a8 : PySem.W.nsIn K mainGlobals "is_free" = some (some (.ref f8))) (l8 : K.lookup f8 = some ⟨oc8, od8, .func (PySem.W.fnOf "is_free" "is_free" (defArgs s_is_free) (defBody s_is_free) (defScope s_is_free) .none kV8 dc8 pm8 an8 cd8 ct8), sl8⟩) (c8 : PySem.W.codeIn K cd8 "is_free" = true) (k8 : PySem.W.keepIn K (.ref f8) = true)
    {f9 : Addr} {od9 an9 : Option Addr} {sl9 : Array (Option Value)} {oc9 kV9 dc9 pm9 cd9 ct9 : Value}
    (a9 : PySem.W.nsIn K mainGlobals "used" = some (some (.ref f9))) (l9 : K.lookup f9 = some ⟨oc9, od9, .func (PySem.W.fnOf "used" "used" (defArgs s_used) (defBody s_used) (defScope s_used) .none kV9 dc9 pm9 an9 cd9 ct9), sl9⟩) (c9 : PySem.W.codeIn K cd9 "used" = true) (k9 : PySem.W.keepIn K (.ref f9) = true)
    {f10 : Addr} {od10 an10 : Option Addr} {sl10 : Array (Option Value)} {oc10 kV10 dc10 pm10 cd10 ct10 : Value}
    (a10 : PySem.W.nsIn K mainGlobals "put_free" = some (some (.ref f10))) (l10 : K.lookup f10 = some ⟨oc10, od10, .func (PySem.W.fnOf "put_free" "put_free" (defArgs s_put_free) (defBody s_put_free) (defScope s_put_free) .none kV10 dc10 pm10 an10 cd10 ct10), sl10⟩) (c10 : PySem.W.codeIn K cd10 "put_free" = true) (k10 : PySem.W.keepIn K (.ref f10) = true)
    {f11 : Addr} {od11 an11 : Option Addr} {sl11 : Array (Option Value)} {oc11 kV11 dc11 pm11 cd11 ct11 : Value}
    (a11 : PySem.W.nsIn K mainGlobals "join_free" = some (some (.ref f11))) (l11 : K.lookup f11 = some ⟨oc11, od11, .func (PySem.W.fnOf "join_free" "join_free" (defArgs s_join_free) (defBody s_join_free) (defScope s_join_free) .none kV11 dc11 pm11 an11 cd11 ct11), sl11⟩) (c11 : PySem.W.codeIn K cd11 "join_free" = true) (k11 : PySem.W.keepIn K (.ref f11) = true)
    {f12 : Addr} {od12 an12 : Option Addr} {sl12 : Array (Option Value)} {oc12 kV12 dc12 pm12 cd12 ct12 : Value}
    (a12 : PySem.W.nsIn K mainGlobals "push_together" = some (some (.ref f12))) (l12 : K.lookup f12 = some ⟨oc12, od12, .func (PySem.W.fnOf "push_together" "push_together" (defArgs s_push_together) (defBody s_push_together) (defScope s_push_together) .none kV12 dc12 pm12 an12 cd12 ct12), sl12⟩) (c12 : PySem.W.codeIn K cd12 "push_together" = true) (k12 : PySem.W.keepIn K (.ref f12) = true)
    {f13 : Addr} {od13 an13 : Option Addr} {sl13 : Array (Option Value)} {oc13 kV13 dc13 pm13 cd13 ct13 : Value}
    (a13 : PySem.W.nsIn K mainGlobals "free_place" = some (some (.ref f13))) (l13 : K.lookup f13 = some ⟨oc13, od13, .func (PySem.W.fnOf "free_place" "free_place" (defArgs s_free_place) (defBody s_free_place) (defScope s_free_place) .none kV13 dc13 pm13 an13 cd13 ct13), sl13⟩) (c13 : PySem.W.codeIn K cd13 "free_place" = true) (k13 : PySem.W.keepIn K (.ref f13) = true)
    {f14 : Addr} {od14 an14 : Option Addr} {sl14 : Array (Option Value)} {oc14 kV14 dc14 pm14 cd14 ct14 : Value}
    (a14 : PySem.W.nsIn K mainGlobals "take" = some (some (.ref f14))) (l14 : K.lookup f14 = some ⟨oc14, od14, .func (PySem.W.fnOf "take" "take" (defArgs s_take) (defBody s_take) (defScope s_take) .none kV14 dc14 pm14 an14 cd14 ct14), sl14⟩) (c14 : PySem.W.codeIn K cd14 "take" = true) (k14 : PySem.W.keepIn K (.ref f14) = true)
    {f15 : Addr} {od15 an15 : Option Addr} {sl15 : Array (Option Value)} {oc15 kV15 dc15 pm15 cd15 ct15 : Value}
    (a15 : PySem.W.nsIn K mainGlobals "give_back" = some (some (.ref f15))) (l15 : K.lookup f15 = some ⟨oc15, od15, .func (PySem.W.fnOf "give_back" "give_back" (defArgs s_give_back) (defBody s_give_back) (defScope s_give_back) .none kV15 dc15 pm15 an15 cd15 ct15), sl15⟩) (c15 : PySem.W.codeIn K cd15 "give_back" = true) (k15 : PySem.W.keepIn K (.ref f15) = true)
    {f16 : Addr} {od16 an16 : Option Addr} {sl16 : Array (Option Value)} {oc16 kV16 dc16 pm16 cd16 ct16 : Value}
    (a16 : PySem.W.nsIn K mainGlobals "grow" = some (some (.ref f16))) (l16 : K.lookup f16 = some ⟨oc16, od16, .func (PySem.W.fnOf "grow" "grow" (defArgs s_grow) (defBody s_grow) (defScope s_grow) .none kV16 dc16 pm16 an16 cd16 ct16), sl16⟩) (c16 : PySem.W.codeIn K cd16 "grow" = true) (k16 : PySem.W.keepIn K (.ref f16) = true)
    {f17 : Addr} {od17 an17 : Option Addr} {sl17 : Array (Option Value)} {oc17 kV17 dc17 pm17 cd17 ct17 : Value}
    (a17 : PySem.W.nsIn K mainGlobals "find_block" = some (some (.ref f17))) (l17 : K.lookup f17 = some ⟨oc17, od17, .func (PySem.W.fnOf "find_block" "find_block" (defArgs s_find_block) (defBody s_find_block) (defScope s_find_block) .none kV17 dc17 pm17 an17 cd17 ct17), sl17⟩) (c17 : PySem.W.codeIn K cd17 "find_block" = true) (k17 : PySem.W.keepIn K (.ref f17) = true)
    {f18 : Addr} {od18 an18 : Option Addr} {sl18 : Array (Option Value)} {oc18 kV18 dc18 pm18 cd18 ct18 : Value}
    (a18 : PySem.W.nsIn K mainGlobals "_law_cell" = some (some (.ref f18))) (l18 : K.lookup f18 = some ⟨oc18, od18, .func (PySem.W.fnOf "_law_cell" "_law_cell" (defArgs s__law_cell) (defBody s__law_cell) (defScope s__law_cell) .none kV18 dc18 pm18 an18 cd18 ct18), sl18⟩) (c18 : PySem.W.codeIn K cd18 "_law_cell" = true) (k18 : PySem.W.keepIn K (.ref f18) = true)
    {f19 : Addr} {od19 an19 : Option Addr} {sl19 : Array (Option Value)} {oc19 kV19 dc19 pm19 cd19 ct19 : Value}
    (a19 : PySem.W.nsIn K mainGlobals "_law_list_is" = some (some (.ref f19))) (l19 : K.lookup f19 = some ⟨oc19, od19, .func (PySem.W.fnOf "_law_list_is" "_law_list_is" (defArgs s__law_list_is) (defBody s__law_list_is) (defScope s__law_list_is) .none kV19 dc19 pm19 an19 cd19 ct19), sl19⟩) (c19 : PySem.W.codeIn K cd19 "_law_list_is" = true) (k19 : PySem.W.keepIn K (.ref f19) = true)
    {f20 : Addr} {od20 an20 : Option Addr} {sl20 : Array (Option Value)} {oc20 kV20 dc20 pm20 cd20 ct20 : Value}
    (a20 : PySem.W.nsIn K mainGlobals "_law_same" = some (some (.ref f20))) (l20 : K.lookup f20 = some ⟨oc20, od20, .func (PySem.W.fnOf "_law_same" "_law_same" (defArgs s__law_same) (defBody s__law_same) (defScope s__law_same) .none kV20 dc20 pm20 an20 cd20 ct20), sl20⟩) (c20 : PySem.W.codeIn K cd20 "_law_same" = true) (k20 : PySem.W.keepIn K (.ref f20) = true)
    {f21 : Addr} {od21 an21 : Option Addr} {sl21 : Array (Option Value)} {oc21 kV21 dc21 pm21 cd21 ct21 : Value}
    (a21 : PySem.W.nsIn K mainGlobals "_law_digits" = some (some (.ref f21))) (l21 : K.lookup f21 = some ⟨oc21, od21, .func (PySem.W.fnOf "_law_digits" "_law_digits" (defArgs s__law_digits) (defBody s__law_digits) (defScope s__law_digits) .none kV21 dc21 pm21 an21 cd21 ct21), sl21⟩) (c21 : PySem.W.codeIn K cd21 "_law_digits" = true) (k21 : PySem.W.keepIn K (.ref f21) = true)
    {f22 : Addr} {od22 an22 : Option Addr} {sl22 : Array (Option Value)} {oc22 kV22 dc22 pm22 cd22 ct22 : Value}
    (a22 : PySem.W.nsIn K mainGlobals "_law_draw" = some (some (.ref f22))) (l22 : K.lookup f22 = some ⟨oc22, od22, .func (PySem.W.fnOf "_law_draw" "_law_draw" (defArgs s__law_draw) (defBody s__law_draw) (defScope s__law_draw) .none kV22 dc22 pm22 an22 cd22 ct22), sl22⟩) (c22 : PySem.W.codeIn K cd22 "_law_draw" = true) (k22 : PySem.W.keepIn K (.ref f22) = true)
    {f23 : Addr} {od23 an23 : Option Addr} {sl23 : Array (Option Value)} {oc23 kV23 dc23 pm23 cd23 ct23 : Value}
    (a23 : PySem.W.nsIn K mainGlobals "_law_units" = some (some (.ref f23))) (l23 : K.lookup f23 = some ⟨oc23, od23, .func (PySem.W.fnOf "_law_units" "_law_units" (defArgs s__law_units) (defBody s__law_units) (defScope s__law_units) .none kV23 dc23 pm23 an23 cd23 ct23), sl23⟩) (c23 : PySem.W.codeIn K cd23 "_law_units" = true) (k23 : PySem.W.keepIn K (.ref f23) = true)
    {f24 : Addr} {od24 an24 : Option Addr} {sl24 : Array (Option Value)} {oc24 kV24 dc24 pm24 cd24 ct24 : Value}
    (a24 : PySem.W.nsIn K mainGlobals "_law_joined" = some (some (.ref f24))) (l24 : K.lookup f24 = some ⟨oc24, od24, .func (PySem.W.fnOf "_law_joined" "_law_joined" (defArgs s__law_joined) (defBody s__law_joined) (defScope s__law_joined) .none kV24 dc24 pm24 an24 cd24 ct24), sl24⟩) (c24 : PySem.W.codeIn K cd24 "_law_joined" = true) (k24 : PySem.W.keepIn K (.ref f24) = true)
    {f25 : Addr} {od25 an25 : Option Addr} {sl25 : Array (Option Value)} {oc25 kV25 dc25 pm25 cd25 ct25 : Value}
    (a25 : PySem.W.nsIn K mainGlobals "_law_together" = some (some (.ref f25))) (l25 : K.lookup f25 = some ⟨oc25, od25, .func (PySem.W.fnOf "_law_together" "_law_together" (defArgs s__law_together) (defBody s__law_together) (defScope s__law_together) .none kV25 dc25 pm25 an25 cd25 ct25), sl25⟩) (c25 : PySem.W.codeIn K cd25 "_law_together" = true) (k25 : PySem.W.keepIn K (.ref f25) = true)
    {f26 : Addr} {od26 an26 : Option Addr} {sl26 : Array (Option Value)} {oc26 kV26 dc26 pm26 cd26 ct26 : Value}
    (a26 : PySem.W.nsIn K mainGlobals "_law_taken" = some (some (.ref f26))) (l26 : K.lookup f26 = some ⟨oc26, od26, .func (PySem.W.fnOf "_law_taken" "_law_taken" (defArgs s__law_taken) (defBody s__law_taken) (defScope s__law_taken) .none kV26 dc26 pm26 an26 cd26 ct26), sl26⟩) (c26 : PySem.W.codeIn K cd26 "_law_taken" = true) (k26 : PySem.W.keepIn K (.ref f26) = true)
    {f27 : Addr} {od27 an27 : Option Addr} {sl27 : Array (Option Value)} {oc27 kV27 dc27 pm27 cd27 ct27 : Value}
    (a27 : PySem.W.nsIn K mainGlobals "_law_written" = some (some (.ref f27))) (l27 : K.lookup f27 = some ⟨oc27, od27, .func (PySem.W.fnOf "_law_written" "_law_written" (defArgs s__law_written) (defBody s__law_written) (defScope s__law_written) .none kV27 dc27 pm27 an27 cd27 ct27), sl27⟩) (c27 : PySem.W.codeIn K cd27 "_law_written" = true) (k27 : PySem.W.keepIn K (.ref f27) = true)
    {f28 : Addr} {od28 an28 : Option Addr} {sl28 : Array (Option Value)} {oc28 kV28 dc28 pm28 cd28 ct28 : Value}
    (a28 : PySem.W.nsIn K mainGlobals "_law_take" = some (some (.ref f28))) (l28 : K.lookup f28 = some ⟨oc28, od28, .func (PySem.W.fnOf "_law_take" "_law_take" (defArgs s__law_take) (defBody s__law_take) (defScope s__law_take) .none kV28 dc28 pm28 an28 cd28 ct28), sl28⟩) (c28 : PySem.W.codeIn K cd28 "_law_take" = true) (k28 : PySem.W.keepIn K (.ref f28) = true)
    {f29 : Addr} {od29 an29 : Option Addr} {sl29 : Array (Option Value)} {oc29 kV29 dc29 pm29 cd29 ct29 : Value}
    (a29 : PySem.W.nsIn K mainGlobals "_law_offsets" = some (some (.ref f29))) (l29 : K.lookup f29 = some ⟨oc29, od29, .func (PySem.W.fnOf "_law_offsets" "_law_offsets" (defArgs s__law_offsets) (defBody s__law_offsets) (defScope s__law_offsets) .none kV29 dc29 pm29 an29 cd29 ct29), sl29⟩) (c29 : PySem.W.codeIn K cd29 "_law_offsets" = true) (k29 : PySem.W.keepIn K (.ref f29) = true)
    {f30 : Addr} {od30 an30 : Option Addr} {sl30 : Array (Option Value)} {oc30 kV30 dc30 pm30 cd30 ct30 : Value}
    (a30 : PySem.W.nsIn K mainGlobals "_law_body" = some (some (.ref f30))) (l30 : K.lookup f30 = some ⟨oc30, od30, .func (PySem.W.fnOf "_law_body" "_law_body" (defArgs s__law_body) (defBody s__law_body) (defScope s__law_body) .none kV30 dc30 pm30 an30 cd30 ct30), sl30⟩) (c30 : PySem.W.codeIn K cd30 "_law_body" = true) (k30 : PySem.W.keepIn K (.ref f30) = true)
    {f31 : Addr} {od31 an31 : Option Addr} {sl31 : Array (Option Value)} {oc31 kV31 dc31 pm31 cd31 ct31 : Value}
    (a31 : PySem.W.nsIn K mainGlobals "_law_right" = some (some (.ref f31))) (l31 : K.lookup f31 = some ⟨oc31, od31, .func (PySem.W.fnOf "_law_right" "_law_right" (defArgs s__law_right) (defBody s__law_right) (defScope s__law_right) .none kV31 dc31 pm31 an31 cd31 ct31), sl31⟩) (c31 : PySem.W.codeIn K cd31 "_law_right" = true) (k31 : PySem.W.keepIn K (.ref f31) = true)
    {f32 : Addr} {od32 an32 : Option Addr} {sl32 : Array (Option Value)} {oc32 kV32 dc32 pm32 cd32 ct32 : Value}
    (a32 : PySem.W.nsIn K mainGlobals "law" = some (some (.ref f32))) (l32 : K.lookup f32 = some ⟨oc32, od32, .func (PySem.W.fnOf "law" "law" (defArgs s_law) (defBody s_law) (defScope s_law) .none kV32 dc32 pm32 an32 cd32 ct32), sl32⟩) (c32 : PySem.W.codeIn K cd32 "law" = true) (k32 : PySem.W.keepIn K (.ref f32) = true)
    (z0 : PySem.W.nsIn K mainGlobals "int" = some none)
    (z1 : PySem.W.nsIn K mainGlobals "isinstance" = some none)
    (z2 : PySem.W.nsIn K mainGlobals "len" = some none)
    (z3 : PySem.W.nsIn K mainGlobals "list" = some none)
    (z4 : PySem.W.nsIn K mainGlobals "range" = some none)
    (z5 : PySem.W.nsIn K mainGlobals "repr" = some none)
    (z6 : PySem.W.nsIn K mainGlobals "sum" = some none)
    (g_Full : PySem.W.nsIn K mainGlobals "Full" = some (some (.ref C_Full)))
    (g_RecordError : PySem.W.nsIn K mainGlobals "RecordError" = some (some (.ref C_RecordError)))
    {t_LIST_MARK : Tok} (g_LIST_MARK : PySem.W.nsIn K mainGlobals "LIST_MARK" = some (some (.int 128 t_LIST_MARK)))
    {t_UNIT : Tok} (g_UNIT : PySem.W.nsIn K mainGlobals "UNIT" = some (some (.int 8 t_UNIT)))
    (r_x_Full : PySem.W.excIn K C_Full [.type "ValueError", .type "Exception", .type "BaseException", .type "object"] "ValueError.__new__" = true)
    (r_k_Full : PySem.W.keepIn K (.ref C_Full) = true)
    (r_bb_Full : PySem.W.subIn K (.ref C_Full) (.type "BaseException") = some true)
    (r_tt_Full : PySem.W.typeIn K (.ref C_Full) = some (.type "type"))
    (q_ex_Full_hg : PySem.W.findIn K (.ref C_Full) "__getattribute__" = some (some (.builtin "BaseException.__getattribute__")))
    (q_ex_Full_hk : PySem.W.findIn K (.ref C_Full) "__getattr__" = some none)
    (q_ex_Full_hs : PySem.W.subIn K (.ref C_Full) (.type "BaseException") = some true)
    (q_ex_Full_hd : PySem.W.hasDictIn K C_Full = true)
    (q_ex_Full_ha : PySem.W.findIn K (.ref C_Full) "__class__" = some (some (.builtin "object.__class__")))
    (q_ex_Full_hn : PySem.W.specialIn K (.builtin "object.__class__") "__get__" = some (some (.builtin "getset_descriptor.__get__")))
    (q_ex_Full_ht : PySem.W.takesIn K (.builtin "object.__class__") = some true)
    (q_ex_Full_hm : PySem.W.mroIn K C_Full (.type "object") = some true)
    (qc_RecordError : PySem.W.isClsIn K C_RecordError = true)
    (qt_RecordError : PySem.W.typeIn K (.ref C_RecordError) = some (.type "type"))
    (qs_Full_RecordError : PySem.W.subIn K (.ref C_Full) (.ref C_RecordError) = some true)
    (qb_RecordError : PySem.W.subIn K (.ref C_RecordError) (.type "BaseException") = some true)
    (qc_Full : PySem.W.isClsIn K C_Full = true)
    (qt_Full : PySem.W.typeIn K (.ref C_Full) = some (.type "type"))
    (qs_Full_Full : PySem.W.subIn K (.ref C_Full) (.ref C_Full) = some true)
    : ∃ fd : FuncData, (∀ (s : Shared) (v : Value), BindsTo s fd ⟨[v], []⟩ [("_law_script", v)]) ∧ ∀ base : Heap, K.In base → base.Ns mainGlobals mg → FnG l.prog w K mg base 7 fa fd ["_law_script"] (sp_law K A0) := by
  have e := hfa.symm.trans (PySem.W.mg_of X G a32)
  cases e
  have F0 := fun_mk (st := s_word_number) l0 c0 k0
  have b0 := F0.binds (ps := ["data", "offset", "size", "big"]) fun _ _ _ _ _ _ us hl => match us, hl with | [_, _, _, _], _ => rfl
  have F1 := fun_mk (st := s_put_word_number) l1 c1 k1
  have b1 := F1.binds (ps := ["data", "offset", "size", "big", "number"]) fun _ _ _ _ _ _ us hl => match us, hl with | [_, _, _, _, _], _ => rfl
  have F2 := fun_mk (st := s_read_word) l2 c2 k2
  have b2 := F2.binds (ps := ["data", "offset", "size"]) fun _ _ _ _ _ _ us hl => match us, hl with | [_, _, _], _ => rfl
  have F3 := fun_mk (st := s_write_word) l3 c3 k3
  have b3 := F3.binds (ps := ["data", "offset", "size", "value"]) fun _ _ _ _ _ _ us hl => match us, hl with | [_, _, _, _], _ => rfl
  have F4 := fun_mk (st := s_empty) l4 c4 k4
  have b4 := F4.binds (ps := ["size"]) fun _ _ _ _ _ _ us hl => match us, hl with | [_], _ => rfl
  have F5 := fun_mk (st := s_offsets) l5 c5 k5
  have b5 := F5.binds (ps := ["data"]) fun _ _ _ _ _ _ us hl => match us, hl with | [_], _ => rfl
  have F6 := fun_mk (st := s_block_at) l6 c6 k6
  have b6 := F6.binds (ps := ["data", "offset"]) fun _ _ _ _ _ _ us hl => match us, hl with | [_, _], _ => rfl
  have F7 := fun_mk (st := s_blocks) l7 c7 k7
  have b7 := F7.binds (ps := ["data"]) fun _ _ _ _ _ _ us hl => match us, hl with | [_], _ => rfl
  have F8 := fun_mk (st := s_is_free) l8 c8 k8
  have b8 := F8.binds (ps := ["data", "offset"]) fun _ _ _ _ _ _ us hl => match us, hl with | [_, _], _ => rfl
  have F9 := fun_mk (st := s_used) l9 c9 k9
  have b9 := F9.binds (ps := ["data"]) fun _ _ _ _ _ _ us hl => match us, hl with | [_], _ => rfl
  have F10 := fun_mk (st := s_put_free) l10 c10 k10
  have b10 := F10.binds (ps := ["data", "offset", "units"]) fun _ _ _ _ _ _ us hl => match us, hl with | [_, _, _], _ => rfl
  have F11 := fun_mk (st := s_join_free) l11 c11 k11
  have b11 := F11.binds (ps := ["data"]) fun _ _ _ _ _ _ us hl => match us, hl with | [_], _ => rfl
  have F12 := fun_mk (st := s_push_together) l12 c12 k12
  have b12 := F12.binds (ps := ["data"]) fun _ _ _ _ _ _ us hl => match us, hl with | [_], _ => rfl
  have F13 := fun_mk (st := s_free_place) l13 c13 k13
  have b13 := F13.binds (ps := ["data", "units"]) fun _ _ _ _ _ _ us hl => match us, hl with | [_, _], _ => rfl
  have F14 := fun_mk (st := s_take) l14 c14 k14
  have b14 := F14.binds (ps := ["data", "units", "kind", "version", "number"]) fun _ _ _ _ _ _ us hl => match us, hl with | [_, _, _, _, _], _ => rfl
  have F15 := fun_mk (st := s_give_back) l15 c15 k15
  have b15 := F15.binds (ps := ["data", "offset"]) fun _ _ _ _ _ _ us hl => match us, hl with | [_, _], _ => rfl
  have F16 := fun_mk (st := s_grow) l16 c16 k16
  have b16 := F16.binds (ps := ["data", "size"]) fun _ _ _ _ _ _ us hl => match us, hl with | [_, _], _ => rfl
  have F17 := fun_mk (st := s_find_block) l17 c17 k17
  have b17 := F17.binds (ps := ["data", "number", "version"]) fun _ _ _ _ _ _ us hl => match us, hl with | [_, _, _], _ => rfl
  have F18 := fun_mk (st := s__law_cell) l18 c18 k18
  have b18 := F18.binds (ps := ["_law_script", "_law_k"]) fun _ _ _ _ _ _ us hl => match us, hl with | [_, _], _ => rfl
  have F19 := fun_mk (st := s__law_list_is) l19 c19 k19
  have b19 := F19.binds (ps := ["_law_actual", "_law_due"]) fun _ _ _ _ _ _ us hl => match us, hl with | [_, _], _ => rfl
  have F20 := fun_mk (st := s__law_same) l20 c20 k20
  have b20 := F20.binds (ps := ["_law_actual", "_law_due"]) fun _ _ _ _ _ _ us hl => match us, hl with | [_, _], _ => rfl
  have F21 := fun_mk (st := s__law_digits) l21 c21 k21
  have b21 := F21.binds (ps := ["_law_script", "_law_first", "_law_last"]) fun _ _ _ _ _ _ us hl => match us, hl with | [_, _, _], _ => rfl
  have F22 := fun_mk (st := s__law_draw) l22 c22 k22
  have b22 := F22.binds (ps := ["_law_box", "_law_many"]) fun _ _ _ _ _ _ us hl => match us, hl with | [_, _], _ => rfl
  have F23 := fun_mk (st := s__law_units) l23 c23 k23
  have b23 := F23.binds (ps := ["_law_rows"]) fun _ _ _ _ _ _ us hl => match us, hl with | [_], _ => rfl
  have F24 := fun_mk (st := s__law_joined) l24 c24 k24
  have b24 := F24.binds (ps := ["_law_rows"]) fun _ _ _ _ _ _ us hl => match us, hl with | [_], _ => rfl
  have F25 := fun_mk (st := s__law_together) l25 c25 k25
  have b25 := F25.binds (ps := ["_law_rows", "_law_units_here"]) fun _ _ _ _ _ _ us hl => match us, hl with | [_, _], _ => rfl
  have F26 := fun_mk (st := s__law_taken) l26 c26 k26
  have b26 := F26.binds (ps := ["_law_rows", "_law_units_here", "_law_many", "_law_kind", "_law_version", "_law_number"]) fun _ _ _ _ _ _ us hl => match us, hl with | [_, _, _, _, _, _], _ => rfl
  have F27 := fun_mk (st := s__law_written) l27 c27 k27
  have b27 := F27.binds (ps := ["_law_rows"]) fun _ _ _ _ _ _ us hl => match us, hl with | [_], _ => rfl
  have F28 := fun_mk (st := s__law_take) l28 c28 k28
  have b28 := F28.binds (ps := ["_law_data", "_law_many", "_law_kind", "_law_version", "_law_number"]) fun _ _ _ _ _ _ us hl => match us, hl with | [_, _, _, _, _], _ => rfl
  have F29 := fun_mk (st := s__law_offsets) l29 c29 k29
  have b29 := F29.binds (ps := ["_law_rows"]) fun _ _ _ _ _ _ us hl => match us, hl with | [_], _ => rfl
  have F30 := fun_mk (st := s__law_body) l30 c30 k30
  have b30 := F30.binds (ps := ["_law_box", "_law_data", "_law_rows", "_law_at"]) fun _ _ _ _ _ _ us hl => match us, hl with | [_, _, _, _], _ => rfl
  have F31 := fun_mk (st := s__law_right) l31 c31 k31
  have b31 := F31.binds (ps := ["_law_data", "_law_rows"]) fun _ _ _ _ _ _ us hl => match us, hl with | [_, _], _ => rfl
  have F32 := fun_mk (st := s_law) l32 c32 k32
  have b32 := F32.binds (ps := ["_law_script"]) fun _ _ _ _ _ _ us hl => match us, hl with | [_], _ => rfl
  have T : Top K mg ⟨C_RecordError, 0, 0, 0, C_Full, 0, 0, 0, 0, 0, 0, 0⟩ ⟨_, _, _, _, _, _, _, _, _, _, _, _, _, _, _, _, _, _, _, _, _, _, _, _, _, _, _, _, _, _, _, _, _, _, _, _, _, _, _, _, _, _, _, _, _, _, _, _, _, _, _, _, _, _, _, _, _, _, _, _, _, _, _, _, _, _⟩ := ⟨F0, b0, PySem.W.mg_of X G a0, F1, b1, PySem.W.mg_of X G a1, F2, b2, PySem.W.mg_of X G a2, F3, b3, PySem.W.mg_of X G a3, F4, b4, PySem.W.mg_of X G a4, F5, b5, PySem.W.mg_of X G a5, F6, b6, PySem.W.mg_of X G a6, F7, b7, PySem.W.mg_of X G a7, F8, b8, PySem.W.mg_of X G a8, F9, b9, PySem.W.mg_of X G a9, F10, b10, PySem.W.mg_of X G a10, F11, b11, PySem.W.mg_of X G a11, F12, b12, PySem.W.mg_of X G a12, F13, b13, PySem.W.mg_of X G a13, F14, b14, PySem.W.mg_of X G a14, F15, b15, PySem.W.mg_of X G a15, F16, b16, PySem.W.mg_of X G a16, F17, b17, PySem.W.mg_of X G a17, F18, b18, PySem.W.mg_of X G a18, F19, b19, PySem.W.mg_of X G a19, F20, b20, PySem.W.mg_of X G a20, F21, b21, PySem.W.mg_of X G a21, F22, b22, PySem.W.mg_of X G a22, F23, b23, PySem.W.mg_of X G a23, F24, b24, PySem.W.mg_of X G a24, F25, b25, PySem.W.mg_of X G a25, F26, b26, PySem.W.mg_of X G a26, F27, b27, PySem.W.mg_of X G a27, F28, b28, PySem.W.mg_of X G a28, F29, b29, PySem.W.mg_of X G a29, F30, b30, PySem.W.mg_of X G a30, F31, b31, PySem.W.mg_of X G a31, F32, b32, PySem.W.mg_of X G a32, PySem.W.mg_none_of X G z0, PySem.W.mg_none_of X G z1, PySem.W.mg_none_of X G z2, PySem.W.mg_none_of X G z3, PySem.W.mg_none_of X G z4, PySem.W.mg_none_of X G z5, PySem.W.mg_none_of X G z6, PySem.W.mg_of X G g_Full, PySem.W.mg_of X G g_RecordError, ⟨_, PySem.W.mg_of X G g_LIST_MARK⟩, ⟨_, PySem.W.mg_of X G g_UNIT⟩, r_x_Full, r_k_Full, r_bb_Full, r_tt_Full, ⟨⟨q_ex_Full_hg, q_ex_Full_hk, q_ex_Full_hs, q_ex_Full_hd, q_ex_Full_ha, q_ex_Full_hn, q_ex_Full_ht, q_ex_Full_hm⟩, (exm_r qb_RecordError qc_RecordError qt_RecordError qs_Full_RecordError), (kit_r qc_Full qt_Full qs_Full_Full fun _ => rfl)⟩⟩
  exact ⟨_, fun s v => .of_eq rfl, fun base _ _ => ok_law T⟩
end Rs
open PySem PySem.W PyProof.Rows
set_option maxRecDepth 100000 in
set_option maxHeartbeats 0 in
theorem PySem.Challenge.cw_recstore_k09_blocks_exact_holds : PySem.Challenge.rw_recstore_k09_blocks_exact.Holds := by
  w_on; o_law; k_head; (case hw => w_witness2)
  k_fill
  refine Rs.walk_ofG (l := PySem.Challenge.rw_recstore_k09_blocks_exact) (n := 63) (k := 7) (x := "_law_script") (sp := fun K => Rs.sp_law K Rs.A0) rfl (by decide) rfl ⟨rfl, by decide, by decide⟩ (fun w h Y => PySem.W.kIn_of Y) ?F (fun _ _ a ns _ _ _ hS => ⟨a, ns, rfl, hS, fun _ => rfl⟩)
  case F =>
    intro w mg fa h KX G hmg
    refine' Rs.all_mk KX G hmg ?a0 ?l0 ?c0 ?k0 ?a1 ?l1 ?c1 ?k1 ?a2 ?l2 ?c2 ?k2 ?a3 ?l3 ?c3 ?k3 ?a4 ?l4 ?c4 ?k4 ?a5 ?l5 ?c5 ?k5 ?a6 ?l6 ?c6 ?k6 ?a7 ?l7 ?c7 ?k7 ?a8 ?l8 ?c8 ?k8 ?a9 ?l9 ?c9 ?k9 ?a10 ?l10 ?c10 ?k10 ?a11 ?l11 ?c11 ?k11 ?a12 ?l12 ?c12 ?k12 ?a13 ?l13 ?c13 ?k13 ?a14 ?l14 ?c14 ?k14 ?a15 ?l15 ?c15 ?k15 ?a16 ?l16 ?c16 ?k16 ?a17 ?l17 ?c17 ?k17 ?a18 ?l18 ?c18 ?k18 ?a19 ?l19 ?c19 ?k19 ?a20 ?l20 ?c20 ?k20 ?a21 ?l21 ?c21 ?k21 ?a22 ?l22 ?c22 ?k22 ?a23 ?l23 ?c23 ?k23 ?a24 ?l24 ?c24 ?k24 ?a25 ?l25 ?c25 ?k25 ?a26 ?l26 ?c26 ?k26 ?a27 ?l27 ?c27 ?k27 ?a28 ?l28 ?c28 ?k28 ?a29 ?l29 ?c29 ?k29 ?a30 ?l30 ?c30 ?k30 ?a31 ?l31 ?c31 ?k31 ?a32 ?l32 ?c32 ?k32 ?z0 ?z1 ?z2 ?z3 ?z4 ?z5 ?z6 ?g_Full ?g_RecordError ?g_LIST_MARK ?g_UNIT ?r_x_Full ?r_k_Full ?r_bb_Full ?r_tt_Full ?q_ex_Full_hg ?q_ex_Full_hk ?q_ex_Full_hs ?q_ex_Full_hd ?q_ex_Full_ha ?q_ex_Full_hn ?q_ex_Full_ht ?q_ex_Full_hm ?qc_RecordError ?qt_RecordError ?qs_Full_RecordError ?qb_RecordError ?qc_Full ?qt_Full ?qs_Full_Full
    (case g_Full => k_is); (case g_RecordError => k_is); (case g_LIST_MARK => k_is); (case g_UNIT => k_is); (case a0 => k_is); (case l0 => k_is); (case c0 => k_is); (case k0 => k_is)
    (case a1 => k_is); (case l1 => k_is); (case c1 => k_is); (case k1 => k_is); (case a2 => k_is); (case l2 => k_is); (case c2 => k_is); (case k2 => k_is)
    (case a3 => k_is); (case l3 => k_is); (case c3 => k_is); (case k3 => k_is); (case a4 => k_is); (case l4 => k_is); (case c4 => k_is); (case k4 => k_is)
    (case a5 => k_is); (case l5 => k_is); (case c5 => k_is); (case k5 => k_is); (case a6 => k_is); (case l6 => k_is); (case c6 => k_is); (case k6 => k_is)
    (case a7 => k_is); (case l7 => k_is); (case c7 => k_is); (case k7 => k_is); (case a8 => k_is); (case l8 => k_is); (case c8 => k_is); (case k8 => k_is)
    (case a9 => k_is); (case l9 => k_is); (case c9 => k_is); (case k9 => k_is); (case a10 => k_is); (case l10 => k_is); (case c10 => k_is); (case k10 => k_is)
    (case a11 => k_is); (case l11 => k_is); (case c11 => k_is); (case k11 => k_is); (case a12 => k_is); (case l12 => k_is); (case c12 => k_is); (case k12 => k_is)
    (case a13 => k_is); (case l13 => k_is); (case c13 => k_is); (case k13 => k_is); (case a14 => k_is); (case l14 => k_is); (case c14 => k_is); (case k14 => k_is)
    (case a15 => k_is); (case l15 => k_is); (case c15 => k_is); (case k15 => k_is); (case a16 => k_is); (case l16 => k_is); (case c16 => k_is); (case k16 => k_is)
    (case a17 => k_is); (case l17 => k_is); (case c17 => k_is); (case k17 => k_is); (case a18 => k_is); (case l18 => k_is); (case c18 => k_is); (case k18 => k_is)
    (case a19 => k_is); (case l19 => k_is); (case c19 => k_is); (case k19 => k_is); (case a20 => k_is); (case l20 => k_is); (case c20 => k_is); (case k20 => k_is)
    (case a21 => k_is); (case l21 => k_is); (case c21 => k_is); (case k21 => k_is); (case a22 => k_is); (case l22 => k_is); (case c22 => k_is); (case k22 => k_is)
    (case a23 => k_is); (case l23 => k_is); (case c23 => k_is); (case k23 => k_is); (case a24 => k_is); (case l24 => k_is); (case c24 => k_is); (case k24 => k_is)
    (case a25 => k_is); (case l25 => k_is); (case c25 => k_is); (case k25 => k_is); (case a26 => k_is); (case l26 => k_is); (case c26 => k_is); (case k26 => k_is)
    (case a27 => k_is); (case l27 => k_is); (case c27 => k_is); (case k27 => k_is); (case a28 => k_is); (case l28 => k_is); (case c28 => k_is); (case k28 => k_is)
    (case a29 => k_is); (case l29 => k_is); (case c29 => k_is); (case k29 => k_is); (case a30 => k_is); (case l30 => k_is); (case c30 => k_is); (case k30 => k_is)
    (case a31 => k_is); (case l31 => k_is); (case c31 => k_is); (case k31 => k_is); (case a32 => k_is); (case l32 => k_is); (case c32 => k_is); (case k32 => k_is)
    (case z0 => k_is); (case z1 => k_is); (case z2 => k_is); (case z3 => k_is); (case z4 => k_is); (case z5 => k_is); (case z6 => k_is); (case r_x_Full => k_exc)
    (case r_k_Full => k_is); (case r_bb_Full => k_is); (case r_tt_Full => k_is); (case q_ex_Full_hg => k_is); (case q_ex_Full_hk => k_is); (case q_ex_Full_hs => k_is); (case q_ex_Full_hd => k_is); (case q_ex_Full_ha => k_is)
    (case q_ex_Full_hn => k_is); (case q_ex_Full_ht => k_is); (case q_ex_Full_hm => k_is); (case qc_RecordError => k_is); (case qt_RecordError => k_is); (case qs_Full_RecordError => k_is); (case qb_RecordError => k_is); (case qc_Full => k_is)
    (case qt_Full => k_is); (case qs_Full_Full => k_is)
