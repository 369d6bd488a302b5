import PyProof.Rows.All
import Wide.All
import OpenK.AllK
import Wide.FinOn
import HandS.ForMost
import HandS.Exc
import HandS.TryOnly
import HandS.ExcOwn
import HandS.WordsExc
import HandS.IsInst
import HandS.Wide
import HandS.TupAny
import HandS.Flow
import HandS.RaiseMore
import HandS.Deep
import HandS.EndBits
import PySem.Challenge.RW_recstore_k24_conflicts_met
set_option Elab.async false
set_option linter.all false
set_option maxRecDepth 100000
namespace Rs
open PySem PySem.Spec PyProof.Rows L2

/-! ### what is known of a heap: a ledger -/
mutual
/-- data that never changes -/
inductive Im (K : PySem.W.Frag) (H : Hp) : V → PyData → Prop
  | non : Im K H .non .none
  | bl (b : Bool) : Im K H (.bl b) (.bool b)
  | int (i : Int) : Im K H (.int i) (.int i)
  | str (x : Str) : Im K H (.str x) (.str x)
  | tup {a : Addr} {xs : List V} {ds : List PyData} : SqT K H a xs → Ims K H xs ds → Im K H (.ref a) (.tuple ds)
inductive Ims (K : PySem.W.Frag) (H : Hp) : List V → List PyData → Prop
  | nil : Ims K H [] []
  | cons {v : V} {vs : List V} {d : PyData} {ds : List PyData} : Im K H v d → Ims K H vs ds → Ims K H (v :: vs) (d :: ds)
end
/-- an entry: a thing, or a list of data that never changes -/
inductive Ent | raw (o : HO) | dl (ds : List PyData)
def EntAt (K : PySem.W.Frag) (H : Hp) (a : Addr) : Ent → Prop
  | .raw o => H a = some o
  | .dl ds => ∃ xs, H a = some (.lst xs) ∧ Ims K H xs ds
/-- all is as it was, but at S -/
def KBs (H H' : Hp) (S : List Addr) : Prop := ∀ b o, H b = some o → b ∉ S → H' b = some o
/-- no tuple stands at S -/
def NoT (H : Hp) (S : List Addr) : Prop := ∀ a ∈ S, ∀ xs, H a ≠ some (.tup xs) ∧ ∀ o, H a ≠ some (.frz o (.tup xs))
section
variable {K : PySem.W.Frag} {H H' : Hp} {S : List Addr}
theorem KBs.refl : KBs H H S := fun _ _ h _ => h
theorem KBs.trans {H1 H2 : Hp} (a : KBs H H1 S) (b : KBs H1 H2 S) : KBs H H2 S := fun c o h n => b c o (a c o h n) n
theorem KBs.mono {T : List Addr} (a : KBs H H' S) (h : ∀ x ∈ S, x ∈ T) : KBs H H' T := fun c o e n => a c o e fun m => n (h c m)
theorem KBs.of (a : Same H H') : KBs H H' S := fun c o e _ => a c o e
theorem KBs.same (a : KBs H H' []) : Same H H' := fun c o e => a c o e (by simp)
theorem sqT_keep {a : Addr} {xs : List V} (k : KBs H H' S) (n : NoT H S) (h : SqT K H a xs) : SqT K H' a xs := by
  rcases h with (h | ⟨o, h⟩) | h
  · refine .inl (.inl (k _ _ h fun m => ?_))
    exact (n a m xs).1 h
  · refine .inl (.inr ⟨o, k _ _ h fun m => ?_⟩)
    exact (n a m xs).2 o h
  · exact .inr h

mutual
theorem Im.keep (k : KBs H H' S) (n : NoT H S) : ∀ {v : V} {d : PyData}, Im K H v d → Im K H' v d
  | _, _, .non => .non
  | _, _, .bl b => .bl b
  | _, _, .int i => .int i
  | _, _, .str x => .str x
  | _, _, .tup h hs => .tup (sqT_keep k n h) (Ims.keep k n hs)
theorem Ims.keep (k : KBs H H' S) (n : NoT H S) : ∀ {vs : List V} {ds : List PyData}, Ims K H vs ds → Ims K H' vs ds
  | _, _, .nil => .nil
  | _, _, .cons h hs => .cons (Im.keep k n h) (Ims.keep k n hs)
end
theorem NoT.nil : NoT H [] := fun _ h => by cases h
theorem Im.same (k : Same H H') {v : V} {d : PyData} (h : Im K H v d) : Im K H' v d := Im.keep (S := []) (KBs.of k) NoT.nil h
theorem Ims.same (k : Same H H') {v : List V} {d : List PyData} (h : Ims K H v d) : Ims K H' v d := Ims.keep (S := []) (KBs.of k) NoT.nil h
theorem Ims.len : ∀ {vs : List V} {ds : List PyData}, Ims K H vs ds → vs.length = ds.length
  | _, _, .nil => rfl
  | _, _, .cons _ h => by rw [List.length_cons, List.length_cons, Ims.len h]
theorem Ims.get : ∀ {vs : List V} {ds : List PyData} {i : Nat} {v : V}, Ims K H vs ds → vs[i]? = some v → ∃ d, ds[i]? = some d ∧ Im K H v d
  | _, _, i, v, .nil, e => by simp at e
  | _, _, 0, v, .cons h _, e => by
    have e' := Option.some.inj e
    subst e'
    exact ⟨_, rfl, h⟩
  | _, _, i + 1, v, .cons _ h, e => Ims.get (i := i) h e
theorem Ims.get' : ∀ {vs : List V} {ds : List PyData} {i : Nat} {d : PyData}, Ims K H vs ds → ds[i]? = some d → ∃ v, vs[i]? = some v ∧ Im K H v d
  | _, _, i, v, .nil, e => by simp at e
  | _, _, 0, v, .cons h _, e => by
    have e' := Option.some.inj e
    subst e'
    exact ⟨_, rfl, h⟩
  | _, _, i + 1, v, .cons _ h, e => Ims.get' (i := i) h e
theorem Ims.app : ∀ {vs ws : List V} {ds es : List PyData}, Ims K H vs ds → Ims K H ws es → Ims K H (vs ++ ws) (ds ++ es)
  | _, _, _, _, .nil, h => h
  | _, _, _, _, .cons a b, h => .cons a (Ims.app b h)
theorem Ims.one {v : V} {d : PyData} (h : Im K H v d) : Ims K H [v] [d] := .cons h .nil
theorem Ims.ints : ∀ {vs : List V} {ns : List Int}, Ims K H vs (ns.map PyData.int) → vs = ns.map V.int
  | _, [], .nil => rfl
  | _, n :: ns, .cons h t => by
    cases h
    rw [Ims.ints t]
    rfl
theorem Ims.of_ints : ∀ ns : List Int, Ims K H (ns.map V.int) (ns.map PyData.int)
  | [] => .nil
  | n :: ns => .cons (.int n) (Ims.of_ints ns)
theorem Ims.take (n : Nat) : ∀ {vs : List V} {ds : List PyData}, Ims K H vs ds → Ims K H (vs.take n) (ds.take n) := by
  induction n with
  | zero => intro vs ds _; exact .nil
  | succ n ih =>
    intro vs ds h
    cases h with
    | nil => exact .nil
    | cons a b => exact .cons a (ih b)
theorem Ims.drop (n : Nat) : ∀ {vs : List V} {ds : List PyData}, Ims K H vs ds → Ims K H (vs.drop n) (ds.drop n) := by
  induction n with
  | zero => intro vs ds h; exact h
  | succ n ih =>
    intro vs ds h
    cases h with
    | nil => exact .nil
    | cons a b => exact ih b
mutual
theorem Im.dp : ∀ {v : V} {d : PyData}, Im K H v d → Dp K H v d
  | _, _, .non => .non
  | _, _, .bl b => .bl b
  | _, _, .int i => .int i
  | _, _, .str x => .str x
  | _, _, .tup h hs => .tup h (Ims.dp hs)
theorem Ims.dp : ∀ {vs : List V} {ds : List PyData}, Ims K H vs ds → DpAll K H vs ds
  | _, _, .nil => .nil
  | _, _, .cons h hs => .cons (Im.dp h) (Ims.dp hs)
end
/-- what the entry tells stays -/
theorem EntAt.keep {a : Addr} {e : Ent} (k : KBs H H' S) (n : NoT H S) (ha : a ∉ S) (h : EntAt K H a e) : EntAt K H' a e := by
  cases e with
  | raw o => exact k _ _ h ha
  | dl ds =>
    obtain ⟨xs, h1, h2⟩ := h
    exact ⟨xs, k _ _ h1 ha, h2.keep k n⟩
theorem EntAt.some {a : Addr} {e : Ent} (h : EntAt K H a e) : ∃ o, H a = some o := by
  cases e with
  | raw o => exact ⟨o, h⟩
  | dl ds =>
    obtain ⟨xs, h1, _⟩ := h
    exact ⟨_, h1⟩
end

/-- the ledger: H0 the heap at the entry, S what may have changed of it since; L: what is known of lists and objects, I: of data -/
structure Led (K : PySem.W.Frag) (H0 : Hp) (S : List Addr) (H : Hp) (L : List (Addr × Ent)) (I : List (V × PyData)) : Prop where
  nd : (L.map (·.1)).Nodup
  at_ : ∀ (n : Nat) a e, L[n]? = some (a, e) → EntAt K H a e
  im : ∀ (n : Nat) v d, I[n]? = some (v, d) → Im K H v d
  kp : KBs H0 H S
section
variable {K : PySem.W.Frag} {H0 H H' : Hp} {S : List Addr} {L : List (Addr × Ent)} {I : List (V × PyData)}
theorem Led.start : Led K H S H [] [] := ⟨List.nodup_nil, fun n a e h => by simp at h, fun n v d h => by simp at h, KBs.refl⟩
theorem Led.raw (h : Led K H0 S H L I) (n : Nat) {a : Addr} {o : HO} (e : L[n]? = some (a, .raw o)) : H a = some o := h.at_ n a _ e
/-- fresh now is fresh at the entry -/
theorem fresh0 (h : KBs H0 H S) {p : Addr} (hs : p ∉ S) (e : H p = none) : H0 p = none := by
  cases q : H0 p with
  | none => rfl
  | some o =>
    rw [h p o q hs] at e
    cases e
theorem Led.notin (h : Led K H0 S H L I) {p : Addr} (e : H p = none) : p ∉ L.map (·.1) := fun m => by
  obtain ⟨⟨a, x⟩, h1, h2⟩ := List.mem_map.mp m
  obtain ⟨n, hn, h3⟩ := List.getElem_of_mem h1
  have h4 : L[n]? = some (a, x) := by rw [List.getElem?_eq_getElem hn, h3]
  obtain ⟨o, h5⟩ := (h.at_ n a x h4).some
  have h6 : a = p := h2
  subst h6
  rw [h5] at e
  cases e
theorem Led.same (h : Led K H0 S H L I) (k : Same H H') : Led K H0 S H' L I :=
  ⟨h.nd, fun n a e q => (h.at_ n a e q).keep (S := []) (KBs.of k) NoT.nil (by simp), fun n v d q => (h.im n v d q).same k, h.kp.trans (KBs.of k)⟩
/-- a new entry -/
theorem Led.new (h : Led K H0 S H L I) (k : Same H H') {p : Addr} {e : Ent} (hn : H p = none) (he : EntAt K H' p e) : Led K H0 S H' ((p, e) :: L) I := by
  have h1 := h.same k
  refine ⟨?_, fun n a x q => ?_, h1.im, h1.kp⟩
  · rw [List.map_cons, List.nodup_cons]
    exact ⟨h.notin hn, h.nd⟩
  · cases n with
    | zero =>
      have q' := Option.some.inj q
      cases q'
      exact he
    | succ n => exact h1.at_ n a x q
theorem same_new {p : Addr} {o : HO} (h : H p = none) : Same H (upd H p o) := fun b x e => by
  rw [upd_ne (ne_of_none e h)]
  exact e
theorem Led.alloc (h : Led K H0 S H L I) {p : Addr} {o : HO} (hn : H p = none) : Led K H0 S (upd H p o) ((p, .raw o) :: L) I := h.new (same_new hn) hn upd_same
theorem Led.allocD (h : Led K H0 S H L I) {p : Addr} {xs : List V} {ds : List PyData} (hn : H p = none) (hd : Ims K H xs ds) : Led K H0 S (upd H p (.lst xs)) ((p, .dl ds) :: L) I :=
  h.new (same_new hn) hn ⟨xs, upd_same, hd.same (same_new hn)⟩
/-- a new fact on data -/
theorem Led.imNew (h : Led K H0 S H L I) {v : V} {d : PyData} (hi : Im K H v d) : Led K H0 S H L ((v, d) :: I) :=
  ⟨h.nd, h.at_, fun n x y q => by
    cases n with
    | zero =>
      have q' := Option.some.inj q
      cases q'
      exact hi
    | succ n => exact h.im n x y q, h.kp⟩
theorem Led.allocT (h : Led K H0 S H L I) {p : Addr} {xs : List V} {ds : List PyData} (hn : H p = none) (hd : Ims K H xs ds) : Led K H0 S (upd H p (.tup xs)) L ((.ref p, .tuple ds) :: I) :=
  (h.same (same_new hn)).imNew (.tup (SqT.of upd_same) (hd.same (same_new hn)))
def isMut : HO → Bool
  | .tup _ => false
  | .frz _ _ => false
  | _ => true
theorem NoT.one {a : Addr} {o : HO} (h : H a = some o) (hm : isMut o = true) : NoT H [a] := fun b hb xs => by
  have e : b = a := by simpa using hb
  subst e
  refine ⟨fun q => ?_, fun u q => ?_⟩
  · rw [h] at q
    cases q
    exact Bool.false_ne_true hm
  · rw [h] at q
    cases q
    exact Bool.false_ne_true hm
/-- the n-th entry changes -/
theorem Led.wr (h : Led K H0 S H L I) (n : Nat) {a : Addr} {e e' : Ent} {o : HO} (q : L[n]? = some (a, e)) (k : KBs H H' [a]) (ho : H a = some o) (hm : isMut o = true) (he : EntAt K H' a e') (hs : H0 a = none ∨ a ∈ S) : Led K H0 S H' (L.set n (a, e')) I := by
  have hN := NoT.one ho hm
  have hn : n < L.length := (List.getElem?_eq_some_iff.mp q).1
  refine ⟨?_, fun m b x r => ?_, fun m v d r => (h.im m v d r).keep k hN, fun b x r hb => ?_⟩
  · have e2 : (L.set n (a, e')).map (·.1) = L.map (·.1) := by
      rw [List.map_set]
      refine List.ext_getElem? fun i => ?_
      by_cases hi : n = i
      · subst hi
        rw [List.getElem?_set_self (by rw [List.length_map]; exact hn), List.getElem?_map, q]
        rfl
      · rw [List.getElem?_set_ne hi]
    rw [e2]
    exact h.nd
  · by_cases hm' : n = m
    · subst hm'
      rw [List.getElem?_set_self hn] at r
      cases r
      exact he
    · rw [List.getElem?_set_ne hm'] at r
      refine (h.at_ m b x r).keep k hN fun hb => ?_
      have e3 : b = a := by simpa using hb
      subst e3
      have r1 : (L.map (·.1))[m]? = some b := by
        rw [List.getElem?_map, r]
        rfl
      have r2 : (L.map (·.1))[n]? = some b := by
        rw [List.getElem?_map, q]
        rfl
      exact hm' (nd_ix h.nd r2 r1)
  · refine k b x (h.kp b x r hb) fun z => ?_
    have e3 : b = a := by simpa using z
    subst e3
    rcases hs with hs | hs
    · rw [r] at hs
      cases hs
    · exact hb hs
/-- entries that are no longer wanted -/
theorem Led.take (h : Led K H0 S H L I) (L' : List (Addr × Ent)) (I' : List (V × PyData)) (f : List Nat) (g : List Nat) (hf : f.Nodup) (h1 : L'.length = f.length) (h2 : ∀ (i n : Nat), f[i]? = some n → L'[i]? = L[n]?) (h3 : I'.length = g.length) (h4 : ∀ (i n : Nat), g[i]? = some n → I'[i]? = I[n]?) : Led K H0 S H L' I' := by
  have nth : ∀ (i : Nat) a e, L'[i]? = some (a, e) → ∃ n, f[i]? = some n ∧ L[n]? = some (a, e) := fun i a e q => by
    have hi : i < f.length := by rw [← h1]; exact (List.getElem?_eq_some_iff.mp q).1
    refine ⟨f[i], List.getElem?_eq_getElem hi, ?_⟩
    rw [← h2 i f[i] (List.getElem?_eq_getElem hi)]
    exact q
  refine ⟨?_, fun i a e q => ?_, fun i v d q => ?_, h.kp⟩
  · refine List.pairwise_iff_getElem.mpr fun i j hi' hj' hij e => ?_
    have hi : i < L'.length := by rw [← List.length_map (f := (·.1))]; exact hi'
    have hj : j < L'.length := by rw [← List.length_map (f := (·.1))]; exact hj'
    obtain ⟨n, fn, ln⟩ := nth i L'[i].1 L'[i].2 (List.getElem?_eq_getElem hi)
    obtain ⟨m, fm, lm⟩ := nth j L'[j].1 L'[j].2 (List.getElem?_eq_getElem hj)
    have ea : L'[i].1 = L'[j].1 := by
      rw [List.getElem_map, List.getElem_map] at e
      exact e
    have r1 : (L.map (·.1))[n]? = some L'[i].1 := by
      rw [List.getElem?_map, ln]
      rfl
    have r2 : (L.map (·.1))[m]? = some L'[i].1 := by
      rw [List.getElem?_map, lm, ea]
      rfl
    have en := nd_ix h.nd r1 r2
    subst en
    exact absurd (nd_ix hf fn fm) (Nat.ne_of_lt hij)
  · obtain ⟨n, _, ln⟩ := nth i a e q
    exact h.at_ n a e ln
  · have hi : i < g.length := by rw [← h3]; exact (List.getElem?_eq_some_iff.mp q).1
    have q2 := h4 i g[i] (List.getElem?_eq_getElem hi)
    rw [q] at q2
    exact h.im _ v d q2.symm
end

abbrev RCall := List V → Hp → VK → Prop
abbrev RSl := V → Option Int → Option Int → Hp → VK → Prop
abbrev RMt := V → List V → Hp → VK → Prop
theorem u65 {k : Nat} {A : Around} (r : Room k A) : A.units + 65 < cLine := by have := r.un; omega

/-! ### readings that compute -/
def lk : L2.St → Nat → Option V
  | [], _ => none
  | x :: _, 0 => x
  | _ :: σ, n + 1 => lk σ n
theorem lk_get : ∀ {σ : L2.St} {i : Nat} {v : V}, lk σ i = some v → σ[i]? = some (some v)
  | [], _, _, h => nomatch h
  | x :: _, 0, v, h => by
    have h' : x = some v := h
    rw [h']
    rfl
  | _ :: σ, n + 1, v, h => lk_get (σ := σ) (i := n) h
def mV (i : Nat) : TE := fun σ H Q => match lk σ i with
  | some v => Q v H
  | none => False
theorem mV_ok {i : Nat} {σ : L2.St} {H : Hp} {Q : VK} (h : mV i σ H Q) : tVar i σ H Q := by
  unfold mV at h
  cases e : lk σ i with
  | none => rw [e] at h; exact h.elim
  | some v => rw [e] at h; exact ⟨v, lk_get e, h⟩
def rOr (r s : R2) : R2 := fun x y H Q => r x y H Q ∨ s x y H Q
/-- two ints -/
def mI (c : Int → Int → Prop) (f : Int → Int → V) : R2 := fun x y H Q => match x, y with
  | .int i, .int j => c i j ∧ Q (f i j) H
  | _, _ => False
def mI0 (f : Int → Int → V) : R2 := fun x y H Q => match x, y with
  | .int i, .int j => Q (f i j) H
  | _, _ => False
def hAdd (K : PySem.W.Frag) : R2 := fun x y H Q => rCat x y H Q ∨ rCatA K x y H Q
def mAdd (K : PySem.W.Frag) : R2 := fun x y H Q => match x, y with
  | .int i, .int j => Q (.int (i + j)) H
  | .str a, .str b => a.length + b.length ≤ sizeLine ∧ Q (.str (a ++ b)) H
  | .ref a, .ref b => hAdd K (.ref a) (.ref b) H Q
  | _, _ => False
def mSub : R2 := mI0 fun i j => .int (i - j)
def mMul : R2 := fun x y H Q => match x, y with
  | .int i, .int j => CMul i j ∧ Q (.int (i * j)) H
  | .ref a, .int j => rRep (.ref a) (.int j) H Q
  | _, _ => False
def mFdiv : R2 := mI CDiv fun i j => .int (i / j)
def mMod : R2 := mI (fun _ j => 0 < j) fun i j => .int (i % j)
def mPow : R2 := mI CPow fun i j => .int (i ^ j.toNat)
def mShl : R2 := mI CPow fun i j => .int (i * 2 ^ j.toNat)
def mShr : R2 := mI (fun _ j => 0 ≤ j) fun i j => .int (i / 2 ^ j.toNat)
def mLt : R2 := mI0 fun i j => .bl (decide (i < j))
def mLe : R2 := mI0 fun i j => .bl (decide (i ≤ j))
def mGt : R2 := mI0 fun i j => .bl (decide (j < i))
def mGe : R2 := mI0 fun i j => .bl (decide (j ≤ i))
def hEq (K : PySem.W.Frag) : R2 := rOr rEq (rEqD K)
def mEq (K : PySem.W.Frag) : R2 := fun x y H Q => match x, y with
  | .int i, .int j => Q (.bl (decide (i = j))) H
  | .str i, .str j => Q (.bl (decide (i = j))) H
  | .bl i, .bl j => Q (.bl (decide (i = j))) H
  | .non, .non => Q (.bl true) H
  | .str _, .non => Q (.bl false) H
  | .int _, .non => Q (.bl false) H
  | .non, .str _ => Q (.bl false) H
  | .non, .int _ => Q (.bl false) H
  | x, y => hEq K x y H Q
def hNe (K : PySem.W.Frag) : R2 := rOr rNe (rNeD K)
def mNe (K : PySem.W.Frag) : R2 := fun x y H Q => match x, y with
  | .int i, .int j => Q (.bl (!decide (i = j))) H
  | .str i, .str j => Q (.bl (!decide (i = j))) H
  | .bl i, .bl j => Q (.bl (!decide (i = j))) H
  | .non, .non => Q (.bl false) H
  | .str _, .non => Q (.bl true) H
  | .int _, .non => Q (.bl true) H
  | .non, .str _ => Q (.bl true) H
  | .non, .int _ => Q (.bl true) H
  | x, y => hNe K x y H Q
def mIsN : R2 := fun x y H Q => match y with
  | .non => Q (.bl (match x with | .non => true | _ => false)) H
  | _ => False
def mNotN : R2 := fun x y H Q => match y with
  | .non => Q (.bl (match x with | .non => false | _ => true)) H
  | _ => False
def mNeg : V → Hp → VK → Prop := fun x H Q => match x with
  | .int i => Q (.int (-i)) H
  | _ => False
/-- a Bool is wanted -/
def toB (Q : Bool → Hp → Prop) (x : V) (H : Hp) : Prop := match x with
  | .bl b => Q b H
  | _ => False
def mTest (t : TE) : TT := fun σ H Q => t σ H (toB Q)
def hTru (K : PySem.W.Frag) (x : V) (H : Hp) (Q : Bool → Hp → Prop) : Prop := ∃ k, TruV K x H k ∧ Q k H
def mTr (K : PySem.W.Frag) (t : TE) : TT := fun σ H Q => t σ H fun x H1 => match x with
  | .bl b => Q b H1
  | .int i => Q (i != 0) H1
  | .non => Q false H1
  | x => hTru K x H1 Q
def toV (Q : Bool → Hp → Prop) : VK := fun x H => match x with
  | .bl b => Q b H
  | _ => False
def mAndV (ta tb : TE) : TE := fun σ H Q => ta σ H (toB fun c H1 => if c = true then tb σ H1 Q else Q (.bl false) H1)
def mOrV (ta tb : TE) : TE := fun σ H Q => ta σ H (toB fun c H1 => if c = true then Q (.bl true) H1 else tb σ H1 Q)
def mNotV (ta : TE) : TE := fun σ H Q => ta σ H (toB fun c H1 => Q (.bl (!c)) H1)
def mInt : RCall := fun xs H Q => match xs with
  | [.int i] => Q (.int i) H
  | [.bl b] => Q (.int (if b then 1 else 0)) H
  | _ => False
def mPart (t : TE) : TO := fun σ H Q => t σ H fun x H1 => match x with
  | .int i => Q (some i) H1
  | _ => False
/-- an if, its test known: the ways -/
def Br (b : Bool) (t u : TS) (D : Ends) (σ : L2.St) (H : Hp) : Prop := if b = true then t D σ H else u D σ H
def BrE (b : Bool) (t u : TE) (Q : VK) (σ : L2.St) (H : Hp) : Prop := if b = true then t σ H Q else u σ H Q
def mIf (c : TT) (t u : TS) : TS := fun D σ H => c σ H fun b H1 => Br b t u D σ H1
def mIfE (c : TT) (t u : TE) : TE := fun σ H Q => c σ H fun b H1 => BrE b t u Q σ H1
def mAug (i : Nat) (te : TE) (r : R2) : TS := fun D σ H => match lk σ i with
  | some x => te σ H fun y H1 => r x y H1 fun z H2 => D.nx (σ.set i (some z)) H2
  | none => False
def uSl (K : PySem.W.Frag) : RSl := fun x lo hi H Q => rSlL K x lo hi H Q ∨ rSlA K x lo hi H Q ∨ rSlS x lo hi H Q
def uIn (K : PySem.W.Frag) : R2 := rOr (rIn K false) (rInD K)
def uNin (K : PySem.W.Frag) : R2 := rOr (rIn K true) (rNotInD K)
def hLen (K : PySem.W.Frag) : RCall := fun xs H Q => ∃ x n, xs = [x] ∧ LenV K x H n ∧ Q (.int (n : Nat)) H
def hListOf (K : PySem.W.Frag) : RCall := fun xs H Q => ∃ p ys, xs = [.ref p] ∧ (SqL K H p ys ∨ SqT K H p ys) ∧ ∀ l, H l = none → Q (.ref l) (upd H l (.lst ys))
def hTupOf (K : PySem.W.Frag) : RCall := fun xs H Q => ∃ p ys, xs = [.ref p] ∧ ((SqL K H p ys ∧ ∀ l, H l = none → Q (.ref l) (upd H l (.tup ys))) ∨ (SqT K H p ys ∧ Q (.ref p) H))
/-- repr of data -/
def hRepr (K : PySem.W.Frag) : RCall := fun xs H Q => ∃ x d, xs = [x] ∧ Dp K H x d ∧ d.showable = true ∧ d.hasDict = false ∧ d.depth ≤ 60 ∧ d.shown.length ≤ sizeLine ∧ Q (.str d.shown) H
def mAbs : RCall := fun xs H Q => match xs with
  | [.int i] => Q (.int (if i < 0 then -i else i)) H
  | _ => False

/-! ### their rules -/
section
variable {X : Cx}
theorem PE.weak {e : Expr} {t t' : TE} (h : PE X e t) (w : ∀ σ H Q, t' σ H Q → t σ H Q) : PE X e t' := ⟨fun pins s σ H Q I hw => h.run pins s σ H Q I (w σ H Q hw)⟩
theorem PT.weak {e : Expr} {t t' : TT} (h : PT X e t) (w : ∀ σ H Q, t' σ H Q → t σ H Q) : PT X e t' := ⟨fun pins s σ H Q I hw => h.run pins s σ H Q I (w σ H Q hw)⟩
theorem PS.weak {st : Stmt} {t t' : TS} (h : PS X st t) (w : ∀ D σ H, t' D σ H → t D σ H) : PS X st t' := ⟨fun pins s σ H D I hw => h.run pins s σ H D I (w D σ H hw)⟩
theorem OpR.weak {f : Value → Value → Sem Value} {r r' : R2} (h : OpR X f r) (w : ∀ x y H Q, r' x y H Q → r x y H Q) : OpR X f r' := fun pins s σ H x y v u Q I a b hw => h pins s σ H x y v u Q I a b (w x y H Q hw)
theorem OpR.or {f : Value → Value → Sem Value} {r s : R2} (h1 : OpR X f r) (h2 : OpR X f s) : OpR X f (rOr r s) := fun pins sh σ H x y v u Q I a b h => h.elim (h1 pins sh σ H x y v u Q I a b) (h2 pins sh σ H x y v u Q I a b)
theorem CallR.weak {f : Value} {r r' : RCall} (h : CallR X f r) (w : ∀ xs H Q, r' xs H Q → r xs H Q) : CallR X f r' := fun pins s σ H xs us Q I a hw => h pins s σ H xs us Q I a (w xs H Q hw)
theorem SlR.or {r s : RSl} (h1 : SlR X r) (h2 : SlR X s) : SlR X (fun x lo hi H Q => r x lo hi H Q ∨ s x lo hi H Q) := fun pins sh σ H x v vl vu lo hi sl Q I rx hs pl pu h =>
  h.elim (h1 pins sh σ H x v vl vu lo hi sl Q I rx hs pl pu) (h2 pins sh σ H x v vl vu lo hi sl Q I rx hs pl pu)
/-- the name in slot i -/
theorem pn (i : Nat) {x : Str} {pos : Pos} (hN : X.N[i]? = some x := by rfl) (hv : Vis X.env.scope x := by first | exact Or.inl rfl | exact Or.inr (Or.inl rfl) | exact Or.inr (Or.inr rfl)) (hd : (x == ("__debug__" : Str)) = false := by decide)
    (hcd : (x == ("__classdict__" : Str)) = false := by decide) : PE X (.Name x pos) (mV i) := PE.weak (pe_var hN hv hd hcd) fun _ _ _ h => mV_ok h
theorem mI_ok {c : Int → Int → Prop} {f : Int → Int → V} {x y : V} {H : Hp} {Q : VK} (h : mI c f x y H Q) : rI c f x y H Q := by
  cases x <;> cases y <;> first | exact h.elim | exact ⟨_, _, rfl, rfl, h.1, h.2⟩
theorem mI0_ok {f : Int → Int → V} {x y : V} {H : Hp} {Q : VK} (h : mI0 f x y H Q) : rI0 f x y H Q := by
  cases x <;> cases y <;> first | exact h.elim | exact ⟨_, _, rfl, rfl, h⟩
theorem o_add : OpR X (binaryOp .Add) (mAdd X.K) := OpR.weak (OpR.or op_add (OpR.or op_add_str (OpR.or op_cat op_catA))) fun x y H Q h => by
  cases x <;> cases y <;> first | exact h.elim | exact .inl ⟨_, _, rfl, rfl, h⟩ | exact .inr (.inl ⟨_, _, rfl, rfl, h.1, h.2⟩) | exact .inr (.inr h)
theorem o_sub : OpR X (binaryOp .Sub) mSub := OpR.weak op_sub fun _ _ _ _ h => mI0_ok h
theorem o_mul : OpR X (binaryOp .Mult) mMul := OpR.weak (OpR.or op_mul op_rep) fun x y H Q h => by
  cases x <;> cases y <;> first | exact h.elim | exact .inl ⟨_, _, rfl, rfl, h.1, h.2⟩ | exact .inr h
theorem o_fdiv : OpR X (binaryOp .FloorDiv) mFdiv := OpR.weak op_fdiv fun _ _ _ _ h => mI_ok h
theorem o_mod : OpR X (binaryOp .Mod) mMod := OpR.weak op_mod fun _ _ _ _ h => mI_ok h
theorem o_pow : OpR X (binaryOp .Pow) mPow := OpR.weak op_pow fun _ _ _ _ h => mI_ok h
theorem o_shl : OpR X (binaryOp .LShift) mShl := OpR.weak op_shl fun _ _ _ _ h => mI_ok h
theorem o_shr : OpR X (binaryOp .RShift) mShr := OpR.weak op_shr fun _ _ _ _ h => mI_ok h
theorem o_lt : OpR X (compareOp .Lt) mLt := OpR.weak op_lt fun _ _ _ _ h => mI0_ok h
theorem o_le : OpR X (compareOp .LtE) mLe := OpR.weak op_le fun _ _ _ _ h => mI0_ok h
theorem o_gt : OpR X (compareOp .Gt) mGt := OpR.weak op_gt fun _ _ _ _ h => mI0_ok h
theorem o_ge : OpR X (compareOp .GtE) mGe := OpR.weak op_ge fun _ _ _ _ h => mI0_ok h
theorem dec_of {α β : Type} [DecidableEq α] [DecidableEq β] (f : α → β) (inj : ∀ a b, f a = f b → a = b) (a b : α) : decide (f a = f b) = decide (a = b) := by
  by_cases h : a = b
  · rw [h, decide_eq_true rfl, decide_eq_true rfl]
  · rw [decide_eq_false h, decide_eq_false fun e => h (inj a b e)]
theorem o_eq (hu : X.A.units + 64 < cLine) : OpR X (compareOp .Eq) (mEq X.K) := OpR.weak (OpR.or op_eq (op_eqD hu)) fun x y H Q h => by
  cases x <;> cases y <;>
    first
      | exact h
      | exact .inl ⟨rfl, by rw [dec_of V.int fun a b e => V.int.inj e]; exact h⟩
      | exact .inl ⟨rfl, by rw [dec_of V.str fun a b e => V.str.inj e]; exact h⟩
      | exact .inl ⟨rfl, by rw [dec_of V.bl fun a b e => V.bl.inj e]; exact h⟩
      | exact .inl ⟨rfl, h⟩
theorem o_ne (hu : X.A.units + 64 < cLine) : OpR X (compareOp .NotEq) (mNe X.K) := OpR.weak (OpR.or op_ne (op_neD hu)) fun x y H Q h => by
  cases x <;> cases y <;>
    first
      | exact h
      | exact .inl ⟨rfl, by rw [dec_of V.int fun a b e => V.int.inj e]; exact h⟩
      | exact .inl ⟨rfl, by rw [dec_of V.str fun a b e => V.str.inj e]; exact h⟩
      | exact .inl ⟨rfl, by rw [dec_of V.bl fun a b e => V.bl.inj e]; exact h⟩
      | exact .inl ⟨rfl, h⟩
theorem o_isN : OpR X (compareOp .Is) mIsN := OpR.weak op_isN fun x y H Q h => by
  cases y <;> first | exact h.elim | (refine ⟨rfl, ?_⟩; cases x <;> exact h)
theorem o_notN : OpR X (compareOp .IsNot) mNotN := OpR.weak op_notN fun x y H Q h => by
  cases y <;> first | exact h.elim | (refine ⟨rfl, ?_⟩; cases x <;> exact h)
theorem o_in (hu : X.A.units + 65 < cLine) : OpR X (compareOp .In) (uIn X.K) := OpR.or op_in_seq (op_inD hu)
theorem o_nin (hu : X.A.units + 65 < cLine) : OpR X (compareOp .NotIn) (uNin X.K) := OpR.or op_notIn_seq (op_notInD hu)
theorem o_neg : UnR X (unaryOp .USub) mNeg := fun pins s σ H x v Q I r h => un_neg pins s σ H x v Q I r (by
  cases x <;> first | exact h.elim | exact ⟨_, rfl, h⟩)
theorem o_sl : SlR X (uSl X.K) := SlR.or sl_list (SlR.or sl_tupA sl_str)
theorem toB_ok {Q : Bool → Hp → Prop} {x : V} {H : Hp} (h : toB Q x H) : ∃ k, x = .bl k ∧ Q k H := by
  cases x <;> first | exact h.elim | exact ⟨_, rfl, h⟩
theorem toB_eq (Q : Bool → Hp → Prop) : toB Q = fun x H => ∃ k, x = .bl k ∧ Q k H := by
  funext x H
  refine propext ⟨toB_ok, fun h => ?_⟩
  obtain ⟨k, rfl, q⟩ := h
  exact q
theorem m_test {e : Expr} {t : TE} (h : PT X e (tTest t)) : PT X e (mTest t) := PT.weak h fun σ H Q q => by
  unfold mTest at q
  rw [toB_eq] at q
  exact q
theorem tru_eq {K : PySem.W.Frag} (Q : Bool → Hp → Prop) : (fun (x : V) (H1 : Hp) => match x with
  | .bl b => Q b H1
  | .int i => Q (i != 0) H1
  | .non => Q false H1
  | x => hTru K x H1 Q) = fun x H' => ∃ k, TruV K x H' k ∧ Q k H' := by
  funext x H
  refine propext ?_
  cases x <;>
    first
      | exact Iff.rfl
      | exact ⟨fun h => ⟨_, rfl, h⟩, fun ⟨k, e, q⟩ => by cases (show k = _ from e); exact q⟩
theorem p_truth {a : Expr} {ta : TE} (h : PE X a ta) (he : ∀ whole, isTrue a X.env whole = (do let v ← whole; standAt a.pos; holding [v] (truthy v))) : PT X a (mTr X.K ta) := PT.weak (pt_truth h he) fun σ H Q q => by
  unfold mTr at q
  rw [tru_eq] at q
  exact q
theorem p_or {op : BoolOp} {a b : Expr} {rest : List Expr} {ta tb : TE} {pos : Pos} (ha : PE X a ta) (hb : PE X (.BoolOp .Or (b :: rest) pos) tb) : PE X (.BoolOp .Or (a :: b :: rest) pos) (mOrV ta tb) := PE.weak (pe_or ha hb) fun σ H Q q => by
  unfold mOrV at q
  rw [toB_eq] at q
  exact q
theorem p_and {a b : Expr} {rest : List Expr} {ta tb : TE} {pos : Pos} (ha : PE X a ta) (hb : PE X (.BoolOp .And (b :: rest) pos) tb) : PE X (.BoolOp .And (a :: b :: rest) pos) (mAndV ta tb) := PE.weak (pe_and ha hb) fun σ H Q q => by
  unfold mAndV at q
  rw [toB_eq] at q
  exact q
theorem p_not {a : Expr} {ta : TE} {pos : Pos} (ha : PE X a ta) : PE X (.UnaryOp .Not a pos) (mNotV ta) := PE.weak (pe_not ha) fun σ H Q q => by
  unfold mNotV at q
  rw [toB_eq] at q
  exact q
theorem p_if {c : Expr} {a b : List Stmt} {tc : TT} {t u : TS} {pos : Pos} (hc : PT X c tc) (ha : PSs X a t) (hb : PSs X b u) : PS X (.If c a b pos) (mIf tc t u) := ps_if hc ha hb
theorem p_ifE {c a b : Expr} {tA : TT} {ta tb : TE} {pos : Pos} (hc : PT X c tA) (ha : PE X a ta) (hb : PE X b tb) : PE X (.IfExp c a b pos) (mIfE tA ta tb) := pe_ifExp hc ha hb
theorem part_eq (Q : Option Int → Hp → Prop) : (fun (x : V) (H1 : Hp) => match x with
  | .int i => Q (some i) H1
  | _ => False) = fun x H1 => ∃ i, x = .int i ∧ Q (some i) H1 := by
  funext x H
  refine propext ?_
  cases x <;>
    first
      | exact ⟨fun h => ⟨_, rfl, h⟩, fun ⟨k, e, q⟩ => by cases e; exact q⟩
      | exact ⟨fun h => False.elim h, fun ⟨k, e, q⟩ => nomatch e⟩
theorem p_some {e : Expr} {t : TE} (h : PE X e t) : PO X (some e) (mPart t) := by
  have q := po_some h
  have e2 : tPart t = mPart t := by
    funext σ H Q
    unfold tPart mPart
    rw [part_eq]
  rw [e2] at q
  exact q
theorem p_aug {i : Nat} {x : Str} {op : Operator} {e : Expr} {te : TE} {r : R2} {pos pos' : Pos} (hN : X.N.Nodup) (hi : X.N[i]? = some x) (hx : Loc X.env.scope x) (he : PE X e te) (ho : PIp X op r)
    (hd : (x == ("__debug__" : Str)) = false := by decide) (hcd : (x == ("__classdict__" : Str)) = false := by decide)
    (hf : X.fn x = true ∨ X.env.scope.names.lookup x = some .local := by first | exact .inl rfl | exact .inr rfl | assumption) : PS X (.AugAssign (.Name x pos') op e pos) (mAug i te r) := PS.weak (ps_aug hN hi hx he ho (hf := hf)) fun D σ H q => by
  unfold mAug at q
  cases e2 : lk σ i with
  | none =>
    rw [e2] at q
    exact q.elim
  | some v =>
    rw [e2] at q
    exact ⟨v, lk_get e2, q⟩
def mIAdd : R2 := fun x y H Q => match x, y with
  | .int i, .int j => Q (.int (i + j)) H
  | .str a, .str b => a.length + b.length ≤ sizeLine ∧ Q (.str (a ++ b)) H
  | _, _ => False
theorem i_add : PIp X .Add mIAdd := fun pins s σ H x y v u Q I rx ry h => by
  cases x <;> cases y <;>
    first
      | exact h.elim
      | exact iop_add pins s σ H _ _ v u Q I rx ry ⟨_, _, rfl, rfl, h⟩
      | exact iop_add_str pins s σ H _ _ v u Q I rx ry ⟨_, _, rfl, rfl, h.1, h.2⟩
theorem i_sub : PIp X .Sub mSub := fun pins s σ H x y v u Q I rx ry h => iop_sub pins s σ H x y v u Q I rx ry (mI0_ok h)
theorem c_len : CallR X (.builtin "len") (hLen X.K) := call_len
theorem c_int : CallR X (.type "int") mInt := CallR.weak call_int1 fun xs H Q h => by
  unfold mInt at h
  split at h
  · exact .inl ⟨_, rfl, h⟩
  · exact .inr ⟨_, rfl, h⟩
  · exact h.elim
theorem c_abs : CallR X (.builtin "abs") mAbs := CallR.weak call_abs fun xs H Q h => by
  unfold mAbs at h
  split at h
  · exact ⟨_, rfl, h⟩
  · exact h.elim
theorem c_list : CallR X (.type "list") (hListOf X.K) := call_list_of
theorem c_tuple : CallR X (.type "tuple") (hTupOf X.K) := call_tuple_of
theorem c_isi : CallR X (.builtin "isinstance") (rIsi X.K) := call_isi
theorem c_repr (hg : X.A.guards = some []) (hu : X.A.units + 64 < cLine) : CallR X (.builtin "repr") (hRepr X.K) := by
  intro pins s σ H xs us Q I r h
  obtain ⟨x, d, rfl, hd, hs, hn, hz, hl, q⟩ := h
  obtain ⟨u, rfl, rx⟩ := vals1 r
  obtain ⟨as, rd⟩ := Dp.reads I d x u hd rx
  cases hd with
  | int i =>
    obtain ⟨t, rfl⟩ := rx
    refine PySem.P.repr_of_int ?_ ⟨.str _, H, I.tok _, ⟨_, rfl⟩, ?_⟩
    · exact of_decide_eq_true (by simpa [PyData.showable] using hs)
    · simpa [PyData.shown] using q
  | lst h1 h2 =>
    cases rx
    exact repr_of_reads' rd hs (PyData.noDict_hsm hn) hg (by omega) (fun _ _ e => e) (fun h' u tk hk => ⟨.str _, H, I.kept hk, ⟨_, rfl⟩, q⟩) hl
  | tup h1 h2 =>
    cases rx
    exact repr_of_reads' rd hs (PyData.noDict_hsm hn) hg (by omega) (fun _ _ e => e) (fun h' u tk hk => ⟨.str _, H, I.kept hk, ⟨_, rfl⟩, q⟩) hl
  | non =>
    cases rx
    exact PySem.P.repr_of_none ⟨.str _, H, I.tok _, ⟨_, rfl⟩, by simpa [PyData.shown] using q⟩
  | bl b =>
    cases rx
    exact PySem.P.repr_of_bool ⟨.str _, H, I.tok _, ⟨_, rfl⟩, by simpa [PyData.shown] using q⟩
  | str z =>
    obtain ⟨t, rfl⟩ := rx
    exact PySem.P.repr_of_str ⟨.str _, H, I.tok _, ⟨_, rfl⟩, by simpa [PyData.shown] using q⟩ (by simpa [PyData.shown] using hl)
end

/-! ### defs that are called where no repr is under way -/
structure FnG (P : Program) (w : World) (K : PySem.W.Frag) (mg : Str → Option Value) (base : Heap) (k : Nat) (f : Addr) (fd : FuncData) (ps : List Str) (sp : Sp) : Prop where
  len : ∀ vs H Q E, sp vs H Q E → vs.length = ps.length
  go : ∀ (A : Around) (outer : List Env) (s : Shared) (H : Hp) (args : Args) (us : List Value) (vs : List V) (Q : VK) (E : XK), Room k A → A.guards = some [] →
    Env0 P w K mg base A outer s H → BindsTo s fd args (ps.zip us) → Vals vs us → sp vs H Q E → codeAny (model P w) A (.call (.ref f) args) (CR CX0 outer P w H s Q E) s
section
variable {P : Program} {w : World} {K : PySem.W.Frag} {mg : Str → Option Value} {base : Heap}
theorem okG {x qual : Str} {st : Stmt} {f : Addr} {fd : FuncData} {N ps : List Str} {k : Nat} {sp : Sp} (F : Fun K x qual st f fd) (S : FnScope N ps (defScope st))
    (len : ∀ vs H Q E, sp vs H Q E → vs.length = ps.length)
    (body : ∀ (cdv : Value) (A : Around) (outer : List Env) (s : Shared) (H : Hp) (vs : List V) (Q : VK) (E : XK), Room k (A.deeper (envOfC qual (defScope st) s.heap.objs.size f cdv)) →
      (A.deeper (envOfC qual (defScope st) s.heap.objs.size f cdv)).guards = some [] → sp vs H Q E →
      ∃ t, PSs (cxOf CX0 P w K mg base N qual (defScope st) f cdv A outer s H E).nox (defBody st) t ∧ t { nx := fun _ H' => Q .non H', rt := Q } (start N vs) H) :
    FnG P w K mg base (k + 1) f fd ps sp := by
  obtain ⟨oc, od, kV, doc, pm, an, cdv, ct, osl, efd, lk, hcd⟩ := F.ex
  subst efd
  refine ⟨len, fun A outer s H args us vs Q E hr hg e0 hb r hsp => ?_⟩
  have hl := len vs H Q E hsp
  have hkeep : ∀ b o, base.get? b = some o → s.heap.get? b = some o := fun b o e => (e0.bs b o e).1
  have KX : K.In s.heap := e0.mod.kin.keeps hkeep
  have lim : s.heap.NoLimit := e0.mod.nolimit.keeps hkeep
  have kinds : ∀ y ∈ ps.zip us, (defScope st).names.lookup y.1 = some .local ∨
      ((defScope st).names.lookup y.1 = some .cell ∧ ((cellsFrom (s.heap.objs.size + 1) (defScope st).names []).lookup y.1).isSome = true) := fun ⟨n, v⟩ hy => by
    rcases S.par n (List.of_mem_zip hy).1 with q | q
    · exact .inl q
    · exact .inr ⟨q, PySem.W.cellsFrom_some _ _ _ (.inl q)⟩
  refine codeAny_call_function hr.depth (KX f _ lk) rfl S.co S.gen rfl (PySem.W.codeRec_of KX hcd) (hb _ _ _ _ ?_)
  refine wpAny_newFunctionEnv_cells S.kind kinds fun env he s1 x => ?_
  subst he
  refine ⟨lim.keeps x.toInCall.keep, codeAny_func ?_⟩
  obtain ⟨t, ht0, hq⟩ := body cdv A outer s H vs Q E (hr.deeper _) hg hsp
  have ht := ht0.nox
  have I := inv_start (CX := CX0) (E := E) S hr.hd e0 hl r x
  refine wpAny_mono (ht.run [] s1 (start N vs) H _ I hq) (fun fl s' hs => ?_) fun _ _ hs => hs
  have fin : ∀ (σ' : L2.St) (H' : Hp) (v : V) (u : Value), Inv (cxOf CX0 P w K mg base N qual (defScope st) f cdv A outer s H E) [] σ' H' s' → RelV v u → Q v H' → CE outer P w H s Q u s' :=
    fun σ' H' v u J rv q => ⟨v, H', J.os, J.bare, J.base, J.hok, rv, q⟩
  cases fl with
  | next =>
    obtain ⟨σ', H', J, q⟩ := hs
    exact fin σ' H' .non .none J rfl q
  | ret u =>
    obtain ⟨v, σ', H', J, rv, q⟩ := hs
    exact fin σ' H' v u J rv q
  | brk => exact hs.elim fun _ z => z.elim fun _ z => False.elim z.2
  | cont => exact hs.elim fun _ z => z.elim fun _ z => False.elim z.2
theorem FnG.of {k : Nat} {f : Addr} {fd : FuncData} {ps : List Str} {sp : Sp} (F : FnOk P w K mg base CX0 k f fd ps sp) : FnG P w K mg base k f fd ps sp :=
  ⟨F.len, fun A outer s H args us vs Q E hr _ => F.run A outer s H args us vs Q E hr⟩
end
section
variable {X : Cx} {k : Nat} {f : Addr} {fd : FuncData} {ps : List Str} {sp : Sp} {dvs : List V} {ds : List Value} {E : XK} {x : Str} {p pos : Pos} {e : Expr} {es : List Expr} {t : TA}
theorem runG {pins : List (Addr × Obj)} {σ : L2.St} {H : Hp} {s : Shared} {Q : VK} {us : List Value} {vs : List V} (F : FnG X.prog X.w X.K X.mg X.base k f fd ps sp) (hg : X.A.guards = some []) (hr : Room k X.A)
    (hb : Binds X.K fd ps ds) (hd : Vals dvs ds) (I : Inv X pins σ H s) (r : Vals vs us) (h : sp (vs ++ dvs) H Q E) : wpAny (model X.prog X.w) X.A (call (.ref f) us) (EP X pins σ Q) X.xe s := by
  have r2 : Vals (vs ++ dvs) (us ++ ds) := r.append hd
  have hl : (us ++ ds).length = ps.length := r2.length.symm.trans (F.len _ _ _ _ h)
  refine wpAny_call (codeAny_mono (F.go X.A X.stack s H ⟨us, []⟩ (us ++ ds) (vs ++ dvs) Q E hr hg I.env0 (hb s us I.kIn hl) r2 h) fun rr s' hq => ?_)
  match rr, hq with
  | .error _, hq => exact False.elim hq
  | .ok (.ret u), hq => exact I.after hq
  | .ok .next, hq => exact False.elim hq
  | .ok .brk, hq => exact False.elim hq
  | .ok .cont, hq => exact False.elim hq
theorem pe_callG (F : FnG X.prog X.w X.K X.mg X.base k f fd ps sp) (hg : X.A.guards = some []) (hr : Room k X.A) (hgl : Gl X x) (hm : X.mg x = some (.ref f)) (hk : PySem.W.keepIn X.K (.ref f) = true)
    (hb : Binds X.K fd ps ds) (hd : Vals dvs ds) (ha : PA X (e :: es) t) (hdb : (x == ("__debug__" : Str)) = false := by decide)
    (he : starEach (e :: es) X.env = (false, eval e X.env) :: starEach es X.env := by rfl) (hpl : (backTo pos (starEach es X.env)).any (·.1) = false := by rfl) :
    PE X (.Call (.Name x p) (e :: es) [] pos) (tCall sp dvs E t) :=
  ⟨fun pins s σ H Q I h => wpAny_Call_Name_kw (ld_glob I hgl hm
    (PySem.W.callWith_K (h₀ := X.base) I.ok.mod.kin hk (thn (ha.run pos pins s σ H _ I h) fun us s1 ⟨vs, H1, I1, r, q⟩ => ⟨I1.kIn, runG F hg hr hb hd I1 r q⟩) he hpl) hdb)⟩
end

/-! ### the law's end -/
/-- an abstract heap that knows the script alone -/
theorem law_callG {P : Program} {w : World} {K : PySem.W.Frag} {mg mb : Str → Option Value} {k : Nat} {fa a : Addr} {fd : FuncData} {x : Str} {sp : Sp} {s₁ : Shared} {vs : List Value} {ns : List Int}
    (KX : K.In s₁.heap) (hns : s₁.heap.Ns mainGlobals mg) (hb : s₁.heap.Ns builtinsNs mb) (hbb : ∀ x : Str, x ≠ "__name__" → mb x = bootBuiltins x) (hlim : s₁.heap.NoLimit) (hg : s₁.gens = #[])
    (ha : s₁.heap.get? a = some { cls := .type "list", data := .seq vs.toArray }) (hi : IntsAre vs ns) (hl : ns.length ≤ sizeLine) (hr : Room k callerA)
    (F : ∀ base : Heap, K.In base → base.Ns mainGlobals mg → FnG P w K mg base k fa fd [x] sp) (hbind : ∀ (s : Shared) (u : Value), BindsTo s fd ⟨[u], []⟩ [(x, u)])
    (hsp : ∀ H : Hp, Only H → SqL K H a (ns.map V.int) → sp [.ref a] H (fun v _ => v = .bl true) fun _ _ _ => False) :
    codeAny (model P w) callerA (.call (.ref fa) ⟨[.ref a], []⟩) (fun r s' => r = .ok (.ret (.bool true)) ∧ OldK s₁.heap s'.heap ∧ s'.os = s₁.os ∧ AllBare s'.gens) s₁ := by
  have rv := vals_ints hi
  have lenV := hi.length
  -- whatever is known: nothing, or the script alone
  suffices core : ∀ H : Hp, Only H → SqL K H a (ns.map V.int) → HOk P w H s₁.heap → (∀ b, H b ≠ none → b = a ∧ K.lookup a = none) →
      codeAny (model P w) callerA (.call (.ref fa) ⟨[.ref a], []⟩) (fun r s' => r = .ok (.ret (.bool true)) ∧ OldK s₁.heap s'.heap ∧ s'.os = s₁.os ∧ AllBare s'.gens) s₁ by
    cases hk : K.lookup a with
    | some o =>
      have e := KX a o hk
      rw [ha] at e
      cases e
      refine core (fun _ => none) (fun _ => .inl rfl) (.inr ⟨_, vs.toArray, _, hk, rfl, rfl, rfl, ?_, ?_⟩) (fun b u z => ?_) (fun b z => absurd rfl z)
      · rw [List.size_toArray, lenV]
        exact hl
      · simpa using rv
      · exact nomatch (show (none : Option HO) = some u from z)
    | none =>
      refine core (upd (fun _ => none) a (.frz { cls := .type "list", data := .seq vs.toArray } (.lst (ns.map V.int)))) (fun b => ?_) (.inl (.inr ⟨_, upd_same⟩)) (fun b u z => ?_) (fun b z => ?_)
      · by_cases hb : b = a
        · subst hb
          exact .inr ⟨_, _, upd_same⟩
        · exact .inl (upd_ne hb)
      · by_cases hb : b = a
        · subst hb
          rw [upd_same] at z
          cases z
          exact ⟨ha, by rw [List.length_map]; exact hl, vs, _, rv, ha⟩
        · rw [upd_ne hb] at z
          cases z
      · by_cases hb : b = a
        · exact ⟨hb, hk⟩
        · exact absurd (upd_ne hb) z
  intro H hO hS hok hA
  have notDict : ∀ {b : Addr} {o : Obj} {es : Array DictEntry} {ep : Nat}, s₁.heap.get? b = some o → o.data = .dict es ep → H b = none := fun {b o es ep} e d => by
    cases q : H b with
    | none => rfl
    | some u =>
      obtain ⟨e', _⟩ := hA b (by rw [q]; exact nofun)
      subst e'
      rw [ha] at e
      cases e
      exact nomatch (show Data.seq vs.toArray _ = Data.dict es ep from d)
  have nsB : ∀ {b : Addr} {m : Str → Option Value}, s₁.heap.Ns b m → (hidT s₁.heap H).Ns b m := fun ⟨o, es, ep, e, d, r⟩ => ⟨o, es, ep, hidT_get e (notDict e d), d, r⟩
  have inB : K.In (hidT s₁.heap H) := fun b o e => hidT_get (KX b o e) (by
    cases q : H b with
    | none => rfl
    | some u =>
      obtain ⟨e', hk⟩ := hA b (by rw [q]; exact nofun)
      subst e'
      rw [hk] at e
      cases e)
  have md : Mod K mg (hidT s₁.heap H) := ⟨inB, nsB hns, ⟨mb, nsB hb, hbb⟩, hlim.elim fun mc h => ⟨mc, nsB h.1, h.2⟩⟩
  have none_in : ∀ b : Addr, b ∉ frs [] := fun b hb => absurd (show b ∈ ([] : List Addr) from hb) List.not_mem_nil
  have e0 : Env0 P w K mg (hidT s₁.heap H) callerA [] s₁ H := ⟨rfl, md, fun b o e => of_hidT e, Nat.le_of_eq (hidT_size _ _), trivial, fun b hb => absurd hb (none_in b), hok, .of_eq hg⟩
  refine codeAny_mono ((F _ inB (nsB hns)).go callerA [] s₁ H ⟨[.ref a], []⟩ [.ref a] [.ref a] _ _ hr rfl e0 (hbind s₁ (.ref a)) (.cons rfl .nil) (hsp H hO hS)) fun rr s' h => ?_
  match rr, h with
  | .error _, h => exact False.elim h
  | .ok .next, h => exact False.elim h
  | .ok .brk, h => exact False.elim h
  | .ok .cont, h => exact False.elim h
  | .ok (.ret u), h =>
    obtain ⟨v, H', os, bare, un, hok', r', q⟩ := h
    cases (show v = .bl true from q)
    cases (show u = Value.bool true from r')
    refine ⟨rfl, OldK.of_keep fun b o e => ?_, os, bare⟩
    rcases hO b with z | ⟨ob, xs, z⟩
    · exact un.keep b o e z (none_in b) List.not_mem_nil
    · obtain ⟨e1, _⟩ := hok b _ z
      obtain ⟨e2, _⟩ := hok' b _ (un.frzs b ob _ z)
      rw [e] at e1
      cases e1
      exact e2
theorem walk_ofG {l : PySem.W.OpenLaw} {n k : Nat} {q : Program} {loose : List Str} {XP : (Str → Option Value) → Heap → Prop} {YP : World → Heap → Prop} {d : DefRec} {K : Params → PySem.W.Frag} {sp : PySem.W.Frag → Sp} {x : Str}
    (hn : l.most = some n) (hn2 : n ≤ sizeLine) (hdf : d.params.defaults = []) (hr : Room k callerA) (hY : ∀ (w : World) (h : Heap), YP w h → (K w.params).In h)
    (F : ∀ (w : World) (mg : Str → Option Value) (fa : Addr) (h : Heap), (K w.params).In h → h.Ns mainGlobals mg → mg d.name = some (.ref fa) →
      ∃ fd : FuncData, (∀ (s : Shared) (u : Value), BindsTo s fd ⟨[u], []⟩ [(x, u)]) ∧
        ∀ base : Heap, (K w.params).In base → base.Ns mainGlobals mg → FnG l.prog w (K w.params) mg base k fa fd [x] (sp (K w.params)))
    (hsp : ∀ (K : PySem.W.Frag) (H : Hp) (a : Addr) (ns : List Int), ns.length ≤ n → (∀ z ∈ ns, Builtin.Int.intBits z ≤ 1048576) → Only H → SqL K H a (ns.map V.int) → sp K [.ref a] H (fun v _ => v = .bl true) fun _ _ _ => False) :
    PySem.W.WalkO q loose XP YP l.row.toRowW d [] (fun f vs => PySem.call f vs) := by
  refine Att.attach_callB hn hdf fun w s₀ s₁ mg mb fa o pm cd doc a vs ns G Y ho hd hcd hmg hobj hints hlen hbits hg => ?_
  have KX := hY w _ Y
  obtain ⟨fd, hb, hF⟩ := F w mg fa _ KX G.T.g hmg
  exact law_callG KX G.T.g G.T.b G.T.builtins G.T.nolimit hg hobj hints (Nat.le_trans hlen hn2) hr hF hb fun H hO hS => hsp _ H a ns hlen hbits hO hS


/-- a for over what J walks -/
def Lp (J : It) (g : TG) (tb : TS) (D : Ends) (σ : L2.St) (H : Hp) : Prop := ∃ W : Nat → Nat → L2.St → Hp → Prop, (∃ m, W 0 m σ H) ∧ ∀ i m σ H, W i m σ H →
  (J.stop i H ∧ D.nx σ H) ∨
    (J.go i H ∧ ∃ N : L2.St → Hp → Prop, (∀ σ' H', N σ' H' → ∃ m', m' < m ∧ W (i + 1) m' σ' H') ∧ ∀ x H', J.yld i H x H' → g x σ H' fun σ2 H2 => tb { D with nx := N, ct := N, bk := D.nx } σ2 H2)
/-- a list made over what J walks -/
def Lc (J : It) (g : TG) (tt : TT) (te : TE) (vs : List Nat) (σ : L2.St) (H1 : Hp) (Q : VK) : Prop := ∀ D, H1 D = none → ∃ W : Nat → Nat → Hp → Prop, (∃ m, W 0 m (upd H1 D (.lst []))) ∧ ∀ i m H, W i m H →
  (J.stop i H ∧ Q (.ref D) H) ∨
    (J.go i H ∧ ∃ Nx : Hp → Prop, (∀ H', Nx H' → ∃ m', m' < m ∧ W (i + 1) m' H') ∧ ∀ x H', J.yld i H x H' → g x (wipe σ vs) H' fun σ2 H2 => wipe σ2 vs = wipe σ vs ∧ tt σ2 H2 fun b H3 =>
      if b = true then te σ2 H3 fun y H4 => ∃ acc, H4 D = some (.lst acc) ∧ acc.length < sizeLine ∧ Nx (upd H4 D (.lst (acc ++ [y]))) else Nx H3)
/-- what is asked of range's ends -/
def rg1 (xs : List V) (P : Int → Prop) : Prop := match xs with
  | [.int j] => -(2 ^ 62) ≤ j ∧ j < 2 ^ 62 ∧ P j
  | _ => False
def rg2 (xs : List V) (P : Int → Int → Prop) : Prop := match xs with
  | [.int i, .int j] => (-(2 ^ 62) ≤ i ∧ i < 2 ^ 62 ∧ -(2 ^ 62) ≤ j ∧ j < 2 ^ 62) ∧ P i j
  | _ => False
theorem rg1_ok {xs : List V} {P : Int → Prop} : rg1 xs P = ∃ j : Int, xs = [.int j] ∧ -(2 ^ 62) ≤ j ∧ j < 2 ^ 62 ∧ P j := by
  refine propext ⟨fun h => ?_, fun ⟨j, e, h⟩ => by subst e; exact h⟩
  unfold rg1 at h
  split at h
  · exact ⟨_, rfl, h⟩
  · exact h.elim
theorem rg2_ok {xs : List V} {P : Int → Int → Prop} : rg2 xs P = ∃ i j : Int, xs = [.int i, .int j] ∧ (-(2 ^ 62) ≤ i ∧ i < 2 ^ 62 ∧ -(2 ^ 62) ≤ j ∧ j < 2 ^ 62) ∧ P i j := by
  refine propext ⟨fun h => ?_, fun ⟨i, j, e, h⟩ => by subst e; exact h⟩
  unfold rg2 at h
  split at h
  · exact ⟨_, _, rfl, h⟩
  · exact h.elim
def jR1 (ta : TA) : TI := fun σ H R => ta σ H fun vs H1 => rg1 vs fun j => R (Itr 0 j.toNat) H1
def jR2 (ta : TA) : TI := fun σ H R => ta σ H fun vs H1 => rg2 vs fun i j => R (Itr i (j - i).toNat) H1
/-- a list that is walked: its place -/
def isL (K : PySem.W.Frag) (x : V) (H : Hp) (P : Addr → Prop) : Prop := ∃ a, x = .ref a ∧ (∃ xs, SqL K H a xs) ∧ P a
def isT (K : PySem.W.Frag) (x : V) (H : Hp) (P : Addr → Prop) : Prop := ∃ a, x = .ref a ∧ (∃ xs, SqT K H a xs) ∧ P a
def jL (K : PySem.W.Frag) (tl : TE) : TI := fun σ H R => tl σ H fun x H1 => isL K x H1 fun a => R (Itl K a) H1
def jT (K : PySem.W.Frag) (tl : TE) : TI := fun σ H R => tl σ H fun x H1 => isT K x H1 fun a => R (Itt K a) H1
theorem jR1_eq (ta : TA) : iRng1 ta = jR1 ta := by
  funext σ H R
  unfold iRng1 jR1
  simp only [rg1_ok]
theorem jR2_eq (ta : TA) : iRng2 ta = jR2 ta := by
  funext σ H R
  unfold iRng2 jR2
  simp only [rg2_ok]
section
variable {X : Cx}
theorem i_rng1 {tg : Expr} {ta : TA} {iter : Expr} (h : PI X tg iter (iRng1 ta)) : PI X tg iter (jR1 ta) := jR1_eq ta ▸ h
theorem i_rng2 {tg : Expr} {ta : TA} {iter : Expr} (h : PI X tg iter (iRng2 ta)) : PI X tg iter (jR2 ta) := jR2_eq ta ▸ h
theorem i_list {tg iter : Expr} {tl : TE} (h : PI X tg iter (iList X.K tl)) : PI X tg iter (jL X.K tl) := h
theorem i_tup {tg iter : Expr} {tl : TE} (h : PI X tg iter (iTup X.K tl)) : PI X tg iter (jT X.K tl) := h
end
/-- several targets -/
def mGn : TGs := fun vs σ H Q => match vs with
  | [] => Q σ H
  | _ => False
def mGc (t : TG) (u : TGs) : TGs := fun vs σ H Q => match vs with
  | v :: r => t v σ H fun σ' H' => u r σ' H' Q
  | [] => False
theorem mGn_eq : gNil = mGn := by
  funext vs σ H Q
  refine propext ?_
  cases vs with
  | nil => exact ⟨fun h => h.2, fun h => ⟨rfl, h⟩⟩
  | cons v r => exact ⟨fun h => (nomatch h.1), fun h => False.elim h⟩
theorem mGc_eq (t : TG) (u : TGs) : gCons t u = mGc t u := by
  funext vs σ H Q
  refine propext ?_
  cases vs with
  | nil => exact ⟨fun ⟨v, r, e, _⟩ => (nomatch e), fun h => False.elim h⟩
  | cons v r => exact ⟨fun ⟨v, r, e, h⟩ => by cases e; exact h, fun h => ⟨v, r, rfl, h⟩⟩
theorem p_gnil {X : Cx} : PGs X [] mGn := mGn_eq ▸ pgs_nil
theorem p_gcons {X : Cx} {a : Expr} {as : List Expr} {t : TG} {u : TGs} (h1 : PG X a t) (h2 : PGs X as u) (hs : (assignEach (a :: as) X.env).map (·.2) = assign a X.env :: (assignEach as X.env).map (·.2) := by rfl) : PGs X (a :: as) (mGc t u) := mGc_eq t u ▸ pgs_cons h1 h2 hs
/-- a statement, then what is behind it, by a word of one's own between them -/
def mCut (t u : TS) : TS := fun D σ H => ∃ M : L2.St → Hp → Prop, t { D with nx := M } σ H ∧ ∀ σ' H', M σ' H' → u D σ' H'
theorem p_cut {X : Cx} {st : Stmt} {rest : List Stmt} {t u : TS} (h1 : PS X st t) (h2 : PSs X rest u) : PSs X (st :: rest) (mCut t u) where
  run := fun pins s σ H D I h => by
    obtain ⟨M, hm, hu⟩ := h
    have q1 := h1.run pins s σ H { D with nx := M } I hm
    refine wpAny_execs_cons (thn q1 ?_)
    intro fl s1 q
    cases fl with
    | next => exact q.elim fun σ' z => z.elim fun H' z => h2.run pins s1 σ' H' D z.1 (hu σ' H' z.2)
    | ret v => exact q
    | brk => exact q
    | cont => exact q
theorem h_cut {t u : TS} {D : Ends} {σ : L2.St} {H : Hp} (M : L2.St → Hp → Prop) (h1 : t { D with nx := M } σ H) (h2 : ∀ σ' H', M σ' H' → u D σ' H') : mCut t u D σ H := ⟨M, h1, h2⟩
/-- a new list, a new tuple -/
def newL (xs : List V) (H : Hp) (Q : VK) : Prop := xs.length ≤ sizeLine ∧ ∀ p, H p = none → Q (.ref p) (upd H p (.lst xs))
def newT (xs : List V) (H : Hp) (Q : VK) : Prop := xs.length ≤ sizeLine ∧ ∀ p, H p = none → Q (.ref p) (upd H p (.tup xs))
def vl (o : Option V) (Q : VK) (H : Hp) : Prop := match o with
  | some v => Q v H
  | none => False
/-- targets: a tuple's items -/
def tupl (K : PySem.W.Frag) (n : Nat) (t : TGs) (v : V) (σ : L2.St) (H : Hp) (Q : L2.St → Hp → Prop) : Prop := ∃ a xs, v = .ref a ∧ SqT K H a xs ∧ xs.length = n ∧ t xs σ H Q
def asV (v : V) (vs : List V) (P : List V → Prop) : Prop := match vs with
  | x :: r => P r
  | [] => False
def truK (K : PySem.W.Frag) (Q : Bool → Hp → Prop) (x : V) (H1 : Hp) : Prop := match x with
  | .bl b => Q b H1
  | .int i => Q (i != 0) H1
  | .non => Q false H1
  | x => hTru K x H1 Q
def partK (Q : Option Int → Hp → Prop) (x : V) (H1 : Hp) : Prop := match x with
  | .int i => Q (some i) H1
  | _ => False
section
variable {K : PySem.W.Frag} {σ : L2.St} {H H0 : Hp} {S : List Addr} {L : List (Addr × Ent)} {I : List (V × PyData)} {Q : VK} {QB : Bool → Hp → Prop} {QL : List V → Hp → Prop} {QS : L2.St → Hp → Prop} {QO : Option Int → Hp → Prop} {QH : Hp → Prop} {D : Ends} {v x y : V} {ta tb te tl tc : TE} {t u c tt : TT} {A : TA} {t1 t2 ts : TS} {r : R2} {g : TG} {gs : TGs} {vs : List V} {is : List Nat} {i j : Int} {a b : Str} {p q : Bool} {n : Nat} {rc : RCall} {rm : RMt} {rs : RSl} {T : String} {lo hi : TO} {wi : TI}
theorem a_lk0 : lk (none :: σ) 0 = none := rfl
theorem a_lk1 : lk (some v :: σ) 0 = some v := rfl
theorem a_lkS {o : Option V} : lk (o :: σ) (n + 1) = lk σ n := rfl
theorem a_V : mV n σ H Q = vl (lk σ n) Q H := rfl
theorem a_vl : vl (some v) Q H = Q v H := rfl
theorem a_c : tC v σ H Q = Q v H := rfl
theorem a_op : tOp r ta tb σ H Q = ta σ H fun x H1 => tb σ H1 fun y H2 => r x y H2 Q := rfl
theorem a_un {ru : V → Hp → VK → Prop} : tUn ru ta σ H Q = ta σ H fun x H1 => ru x H1 Q := rfl
theorem a_test : mTest ta σ H QB = ta σ H (toB QB) := rfl
theorem a_toB : toB QB (.bl p) H = QB p H := rfl
theorem a_tr : mTr K ta σ H QB = ta σ H (truK K QB) := rfl
theorem a_trB : truK K QB (.bl p) H = QB p H := rfl
theorem a_trI : truK K QB (.int i) H = QB (i != 0) H := rfl
theorem a_trN : truK K QB .non H = QB false H := rfl
theorem a_and : tAnd t u σ H QB = t σ H fun c H1 => if c = true then u σ H1 QB else QB false H1 := rfl
theorem a_or : tOr t u σ H QB = t σ H fun c H1 => if c = true then QB true H1 else u σ H1 QB := rfl
theorem a_not : tNot t σ H QB = t σ H fun c H1 => QB (!c) H1 := rfl
theorem a_andV : mAndV ta tb σ H Q = ta σ H (toB fun c H1 => if c = true then tb σ H1 Q else Q (.bl false) H1) := rfl
theorem a_orV : mOrV ta tb σ H Q = ta σ H (toB fun c H1 => if c = true then Q (.bl true) H1 else tb σ H1 Q) := rfl
theorem a_notV : mNotV ta σ H Q = ta σ H (toB fun c H1 => Q (.bl (!c)) H1) := rfl
theorem a_ifE : mIfE t ta tb σ H Q = t σ H fun b H1 => BrE b ta tb Q σ H1 := rfl
theorem a_nil : tNil σ H QL = QL [] H := rfl
theorem a_cons : tCons ta A σ H QL = ta σ H fun x H1 => A σ H1 fun xs H2 => QL (x :: xs) H2 := rfl
theorem a_lst : tLst A σ H Q = A σ H fun xs H1 => newL xs H1 Q := rfl
theorem a_tup : tTup A σ H Q = A σ H fun xs H1 => newT xs H1 Q := rfl
theorem a_call {sp : Sp} {dvs : List V} {E : XK} : tCall sp dvs E A σ H Q = A σ H fun vs H1 => sp (vs ++ dvs) H1 Q E := rfl
theorem a_CB : tCB rc A σ H Q = A σ H fun vs H1 => rc vs H1 Q := rfl
theorem a_BM : tBM K T rm ta A σ H Q = ta σ H fun x H1 => tyV K T x H1 ∧ A σ H1 fun xs H2 => rm x xs H2 Q := rfl
theorem a_BM0 : tBM0 K T rm ta σ H Q = ta σ H fun x H1 => tyV K T x H1 ∧ rm x [] H1 Q := rfl
theorem a_sl : tSl rs te lo hi σ H Q = te σ H fun x H1 => lo σ H1 fun l H2 => hi σ H2 fun u H3 => rs x l u H3 Q := rfl
theorem a_part : mPart te σ H QO = te σ H (partK QO) := rfl
theorem a_partI : partK QO (.int i) H = QO (some i) H := rfl
theorem a_noPart : tNoPart σ H QO = QO none H := rfl
theorem a_seq : tSeq t1 t2 D σ H = t1 { D with nx := t2 D } σ H := rfl
theorem a_next : tNext D σ H = D.nx σ H := rfl
theorem a_brk : tBreak D σ H = D.bk σ H := rfl
theorem a_cont : tCont D σ H = D.ct σ H := rfl
theorem a_asg : tAsg te g D σ H = te σ H fun x H1 => g x σ H1 D.nx := rfl
theorem a_name : gName n v σ H QS = QS (σ.set n (some v)) H := rfl
theorem a_drop : tDrop te D σ H = te σ H fun _ H1 => D.nx σ H1 := rfl
theorem a_ret : tRet te D σ H = te σ H D.rt := rfl
theorem a_retN : tRetN D σ H = D.rt .non H := rfl
theorem a_if : mIf t t1 t2 D σ H = t σ H fun b H1 => Br b t1 t2 D σ H1 := rfl
theorem a_aug : mAug n te r D σ H = vl (lk σ n) (fun x H => te σ H fun y H1 => r x y H1 fun z H2 => D.nx (σ.set n (some z)) H2) H := rfl
theorem a_for : tFor wi g ts D σ H = wi σ H fun J H1 => Lp J g ts D σ H1 := rfl
theorem a_lc {vs : List Nat} : tLc wi g tt te vs σ H Q = wi σ H fun J H1 => Lc J g tt te vs σ H1 Q := rfl
theorem a_jR1 {R : It → Hp → Prop} : jR1 A σ H R = A σ H fun vs H1 => rg1 vs fun j => R (Itr 0 j.toNat) H1 := rfl
theorem a_jR2 {R : It → Hp → Prop} : jR2 A σ H R = A σ H fun vs H1 => rg2 vs fun i j => R (Itr i (j - i).toNat) H1 := rfl
theorem a_jL {R : It → Hp → Prop} : jL K tl σ H R = tl σ H fun x H1 => isL K x H1 fun a => R (Itl K a) H1 := rfl
theorem a_jT {R : It → Hp → Prop} : jT K tl σ H R = tl σ H fun x H1 => isT K x H1 fun a => R (Itt K a) H1 := rfl
theorem a_rg1 {P : Int → Prop} : rg1 [.int i] P = (-(2 ^ 62) ≤ i ∧ i < 2 ^ 62 ∧ P i) := rfl
theorem a_rg2 {P : Int → Int → Prop} : rg2 [.int i, .int j] P = ((-(2 ^ 62) ≤ i ∧ i < 2 ^ 62 ∧ -(2 ^ 62) ≤ j ∧ j < 2 ^ 62) ∧ P i j) := rfl
theorem a_gsub {to ti : TE} {ts : TSet} : gSub to ti ts v σ H QS = to σ H fun o H1 => ti σ H1 fun i H2 => ts o i v H2 fun H3 => QS σ H3 := rfl
theorem a_yes : tYes σ H QB = QB true H := rfl
theorem a_addI : mAdd K (.int i) (.int j) H Q = Q (.int (i + j)) H := rfl
theorem a_addS : mAdd K (.str a) (.str b) H Q = (a.length + b.length ≤ sizeLine ∧ Q (.str (a ++ b)) H) := rfl
theorem a_addR {a b : Addr} : mAdd K (.ref a) (.ref b) H Q = hAdd K (.ref a) (.ref b) H Q := rfl
theorem a_iaddI : mIAdd (.int i) (.int j) H Q = Q (.int (i + j)) H := rfl
theorem a_iaddS : mIAdd (.str a) (.str b) H Q = (a.length + b.length ≤ sizeLine ∧ Q (.str (a ++ b)) H) := rfl
theorem a_sub : mSub (.int i) (.int j) H Q = Q (.int (i - j)) H := rfl
theorem a_mulI : mMul (.int i) (.int j) H Q = (CMul i j ∧ Q (.int (i * j)) H) := rfl
theorem a_mulR {a : Addr} : mMul (.ref a) (.int j) H Q = rRep (.ref a) (.int j) H Q := rfl
theorem a_fdiv : mFdiv (.int i) (.int j) H Q = (CDiv i j ∧ Q (.int (i / j)) H) := rfl
theorem a_mod : mMod (.int i) (.int j) H Q = (0 < j ∧ Q (.int (i % j)) H) := rfl
theorem a_pow : mPow (.int i) (.int j) H Q = (CPow i j ∧ Q (.int (i ^ j.toNat)) H) := rfl
theorem a_shl : mShl (.int i) (.int j) H Q = (CPow i j ∧ Q (.int (i * 2 ^ j.toNat)) H) := rfl
theorem a_shr : mShr (.int i) (.int j) H Q = (0 ≤ j ∧ Q (.int (i / 2 ^ j.toNat)) H) := rfl
theorem a_lt : mLt (.int i) (.int j) H Q = Q (.bl (decide (i < j))) H := rfl
theorem a_le : mLe (.int i) (.int j) H Q = Q (.bl (decide (i ≤ j))) H := rfl
theorem a_gt : mGt (.int i) (.int j) H Q = Q (.bl (decide (j < i))) H := rfl
theorem a_ge : mGe (.int i) (.int j) H Q = Q (.bl (decide (j ≤ i))) H := rfl
theorem a_neg : mNeg (.int i) H Q = Q (.int (-i)) H := rfl
theorem a_EqI : mEq K (.int i) (.int j) H Q = Q (.bl (decide (i = j))) H := rfl
theorem a_EqS : mEq K (.str a) (.str b) H Q = Q (.bl (decide (a = b))) H := rfl
theorem a_EqB : mEq K (.bl p) (.bl q) H Q = Q (.bl (decide (p = q))) H := rfl
theorem a_EqNN : mEq K .non .non H Q = Q (.bl true) H := rfl
theorem a_EqIN : mEq K (.int i) (.non) H Q = Q (.bl false) H := rfl
theorem a_EqNI : mEq K (.non) (.int i) H Q = Q (.bl false) H := rfl
theorem a_EqSN : mEq K (.str a) (.non) H Q = Q (.bl false) H := rfl
theorem a_EqNS : mEq K (.non) (.str a) H Q = Q (.bl false) H := rfl
theorem a_EqRR {a b : Addr} : mEq K (.ref a) (.ref b) H Q = hEq K (.ref a) (.ref b) H Q := rfl
theorem a_EqRN {a : Addr} : mEq K (.ref a) .non H Q = hEq K (.ref a) .non H Q := rfl
theorem a_EqNR {a : Addr} : mEq K .non (.ref a) H Q = hEq K .non (.ref a) H Q := rfl
theorem a_NeI : mNe K (.int i) (.int j) H Q = Q (.bl (!decide (i = j))) H := rfl
theorem a_NeS : mNe K (.str a) (.str b) H Q = Q (.bl (!decide (a = b))) H := rfl
theorem a_NeB : mNe K (.bl p) (.bl q) H Q = Q (.bl (!decide (p = q))) H := rfl
theorem a_NeNN : mNe K .non .non H Q = Q (.bl false) H := rfl
theorem a_NeIN : mNe K (.int i) (.non) H Q = Q (.bl true) H := rfl
theorem a_NeNI : mNe K (.non) (.int i) H Q = Q (.bl true) H := rfl
theorem a_NeSN : mNe K (.str a) (.non) H Q = Q (.bl true) H := rfl
theorem a_NeNS : mNe K (.non) (.str a) H Q = Q (.bl true) H := rfl
theorem a_NeRR {a b : Addr} : mNe K (.ref a) (.ref b) H Q = hNe K (.ref a) (.ref b) H Q := rfl
theorem a_NeRN {a : Addr} : mNe K (.ref a) .non H Q = hNe K (.ref a) .non H Q := rfl
theorem a_NeNR {a : Addr} : mNe K .non (.ref a) H Q = hNe K .non (.ref a) H Q := rfl
theorem a_isNN : mIsN .non .non H Q = Q (.bl true) H := rfl
theorem a_isNI : mIsN (.int i) .non H Q = Q (.bl false) H := rfl
theorem a_isNS : mIsN (.str a) .non H Q = Q (.bl false) H := rfl
theorem a_isNB : mIsN (.bl p) .non H Q = Q (.bl false) H := rfl
theorem a_isNR {a : Addr} : mIsN (.ref a) .non H Q = Q (.bl false) H := rfl
theorem a_notNN : mNotN .non .non H Q = Q (.bl false) H := rfl
theorem a_notNI : mNotN (.int i) .non H Q = Q (.bl true) H := rfl
theorem a_notNS : mNotN (.str a) .non H Q = Q (.bl true) H := rfl
theorem a_notNB : mNotN (.bl p) .non H Q = Q (.bl true) H := rfl
theorem a_notNR {a : Addr} : mNotN (.ref a) .non H Q = Q (.bl true) H := rfl
theorem a_intI : mInt [.int i] H Q = Q (.int i) H := rfl
theorem a_intB : mInt [.bl p] H Q = Q (.int (if p then 1 else 0)) H := rfl
theorem a_abs : mAbs [.int i] H Q = Q (.int (if i < 0 then -i else i)) H := rfl
theorem a_gnil : mGn [] σ H QS = QS σ H := rfl
theorem a_gcons : mGc g gs (v :: vs) σ H QS = g v σ H fun σ' H' => gs vs σ' H' QS := rfl
end
section
variable {K : PySem.W.Frag} {σ : L2.St} {H H0 : Hp} {S : List Addr} {L : List (Addr × Ent)} {I : List (V × PyData)} {Q : VK} {D : Ends} {v x y : V} {i : Int} {g : TG} {tb : TS} {tt : TT} {te : TE} {vs : List Nat}
/-! ### ledgers made -/
theorem Led.cons {a : Addr} {e : Ent} (hL : Led K H0 S H L I) (h : EntAt K H a e) (hn : a ∉ L.map (·.1)) : Led K H0 S H ((a, e) :: L) I where
  nd := by
    rw [List.map_cons, List.nodup_cons]
    exact ⟨hn, hL.nd⟩
  at_ := fun n b x q => by
    cases n with
    | zero =>
      have q' := Option.some.inj q
      cases q'
      exact h
    | succ n => exact hL.at_ n b x q
  im := hL.im
  kp := hL.kp
theorem Led.mk1 {a : Addr} {e : Ent} (h : EntAt K H a e) : Led K H S H [(a, e)] [] := Led.cons Led.start h List.not_mem_nil
theorem Led.mk2 {a b : Addr} {o u : HO} (h1 : H a = some o) (h2 : H b = some u) (hn : a ≠ b) : Led K H S H [(a, .raw o), (b, .raw u)] [] :=
  Led.cons (Led.mk1 (e := .raw u) h2) (e := .raw o) h1 fun m => hn (List.mem_singleton.mp m)
theorem Led.imm (h : Led K H0 S H L I) (n : Nat) {d : PyData} (e : I[n]? = some (v, d)) : Im K H v d := h.im n v d e
theorem h_imm (n : Nat) (h : Led K H0 S H L I) {d : PyData} (e : I[n]? = some (v, d)) : Im K H v d := h.im n v d e
theorem Led.sqL (h : Led K H0 S H L I) (n : Nat) {a : Addr} {xs : List V} (e : L[n]? = some (a, .raw (.lst xs))) : SqL K H a xs := SqL.of (h.raw n e)
theorem Led.fr (h : Led K H0 S H L I) {p : Addr} (hp : H p = none) : H0 p = none ∨ p ∈ S := by
  by_cases m : p ∈ S
  · exact .inr m
  · exact .inl (fresh0 h.kp m hp)
/-- two entries stand apart -/
theorem Led.ne (h : Led K H0 S H L I) (n m : Nat) {a b : Addr} {e u : Ent} (h1 : L[n]? = some (a, e)) (h2 : L[m]? = some (b, u)) (hnm : n ≠ m) : a ≠ b := fun ab => by
  subst ab
  have r1 : (L.map (·.1))[n]? = some a := by
    rw [List.getElem?_map, h1]
    rfl
  have r2 : (L.map (·.1))[m]? = some a := by
    rw [List.getElem?_map, h2]
    rfl
  exact hnm (nd_ix h.nd r1 r2)
/-! ### the heap's operations -/
theorem h_lst (h : Led K H0 S H L I) {xs : List V} (z : xs.length ≤ sizeLine) (k : ∀ p H', (H0 p = none ∨ p ∈ S) → Led K H0 S H' ((p, .raw (.lst xs)) :: L) I → Q (.ref p) H') : newL xs H Q :=
  ⟨z, fun p hp => k p _ (h.fr hp) (h.alloc hp)⟩
theorem h_tup (h : Led K H0 S H L I) {xs : List V} {ds : List PyData} (z : xs.length ≤ sizeLine) (hd : Ims K H xs ds) (k : ∀ p H', Led K H0 S H' L ((.ref p, .tuple ds) :: I) → Q (.ref p) H') : newT xs H Q :=
  ⟨z, fun p hp => k p _ (h.allocT hp hd)⟩
theorem h_ixL (n : Nat) (h : Led K H0 S H L I) {a : Addr} {xs : List V} (e : L[n]? = some (a, .raw (.lst xs))) (hx : atI xs i = some v) (k : Q v H) : rIx K (.ref a) (.int i) H Q :=
  .inl ⟨a, xs, i, v, rfl, rfl, h.sqL n e, hx, k⟩
theorem h_ixQ {a : Addr} {xs : List V} (h : SqL K H a xs) (hx : atI xs i = some v) (k : Q v H) : rIx K (.ref a) (.int i) H Q := .inl ⟨a, xs, i, v, rfl, rfl, h, hx, k⟩
theorem at_nn {α : Type} {xs : List α} {i : Int} {v : α} (h0 : 0 ≤ i) (h : xs[i.toNat]? = some v) : atI xs i = some v := by
  have q := atI_nat h
  rw [Int.toNat_of_nonneg h0] at q
  exact q
theorem h_ixT {a : Addr} {ds : List PyData} {d : PyData} (hd : Im K H (.ref a) (.tuple ds)) (h0 : 0 ≤ i) (hx : ds[i.toNat]? = some d) (k : ∀ v, Im K H v d → Q v H) : rIx K (.ref a) (.int i) H Q := by
  cases hd with
  | tup hs ha =>
    obtain ⟨v, hv, hi⟩ := ha.get' hx
    exact .inr (.inl ⟨a, _, _, v, rfl, rfl, hs, at_nn h0 hv, k v hi⟩)
/-- a scalar of a tuple -/
def vOf : PyData → Option V
  | .none => some .non
  | .bool b => some (.bl b)
  | .int i => some (.int i)
  | .str x => some (.str x)
  | _ => none
theorem Im.vOf {d : PyData} (h : Im K H v d) : ∀ u, vOf d = some u → v = u := fun u e => by
  cases h <;> first | exact Option.some.inj e | exact nomatch e
theorem h_ixTv {a : Addr} {ds : List PyData} {d : PyData} (hd : Im K H (.ref a) (.tuple ds)) (h0 : 0 ≤ i) (hx : ds[i.toNat]? = some d) (hv : Rs.vOf d = some v) (k : Q v H) : rIx K (.ref a) (.int i) H Q :=
  h_ixT hd h0 hx fun u hu => by rw [hu.vOf v hv]; exact k
theorem h_append (n : Nat) (h : Led K H0 S H L I) {a : Addr} {xs : List V} (e : L[n]? = some (a, .raw (.lst xs))) (hs : H0 a = none ∨ a ∈ S) (z : xs.length < sizeLine) (k : ∀ H', Led K H0 S H' (L.set n (a, .raw (.lst (xs ++ [y])))) I → Q .non H') : rAppend (.ref a) [y] H Q :=
  ⟨a, xs, y, rfl, rfl, h.raw n e, z, k _ (h.wr n e (fun b o q hb => by rw [upd_ne (by simpa using hb)]; exact q) (h.raw n e) rfl upd_same hs)⟩
theorem h_appendD (n : Nat) (h : Led K H0 S H L I) {a : Addr} {ds : List PyData} {d : PyData} (e : L[n]? = some (a, .dl ds)) (hd : Im K H y d) (hs : H0 a = none ∨ a ∈ S) (z : ds.length < sizeLine) (k : ∀ H', Led K H0 S H' (L.set n (a, .dl (ds ++ [d]))) I → Q .non H') : rAppend (.ref a) [y] H Q := by
  obtain ⟨xs, ha, hx⟩ := h.at_ n a _ e
  have hk : KBs H (upd H a (.lst (xs ++ [y]))) [a] := fun b o q hb => by rw [upd_ne (by simpa using hb)]; exact q
  have hN : NoT H [a] := NoT.one ha rfl
  exact ⟨a, xs, y, rfl, rfl, ha, by rw [hx.len]; exact z, k _ (h.wr n e hk ha rfl ⟨_, upd_same, (hx.keep hk hN).app (Ims.one (hd.keep hk hN))⟩ hs)⟩
theorem h_tyL {P : Prop} (n : Nat) (h : Led K H0 S H L I) {a : Addr} {xs : List V} (e : L[n]? = some (a, .raw (.lst xs))) (k : P) : tyV K "list" (.ref a) H ∧ P := ⟨.inl ⟨rfl, xs, h.sqL n e⟩, k⟩
theorem h_tyD {P : Prop} (n : Nat) (h : Led K H0 S H L I) {a : Addr} {ds : List PyData} (e : L[n]? = some (a, .dl ds)) (k : P) : tyV K "list" (.ref a) H ∧ P := by
  obtain ⟨xs, ha, hx⟩ := h.at_ n a _ e
  exact ⟨.inl ⟨rfl, xs, SqL.of ha⟩, k⟩
theorem h_tyS {P : Prop} {a : Str} (k : P) : tyV K "str" (.str a) H ∧ P := ⟨rfl, k⟩
theorem h_lenL (n : Nat) (h : Led K H0 S H L I) {a : Addr} {xs : List V} (e : L[n]? = some (a, .raw (.lst xs))) (k : Q (.int (xs.length : Nat)) H) : hLen K [.ref a] H Q := ⟨.ref a, _, rfl, .inl ⟨xs, h.sqL n e, rfl⟩, k⟩
theorem h_lenD (n : Nat) (h : Led K H0 S H L I) {a : Addr} {ds : List PyData} (e : L[n]? = some (a, .dl ds)) (k : Q (.int (ds.length : Nat)) H) : hLen K [.ref a] H Q := by
  obtain ⟨xs, ha, hx⟩ := h.at_ n a _ e
  exact ⟨.ref a, _, rfl, .inl ⟨xs, SqL.of ha, rfl⟩, by rw [hx.len]; exact k⟩
theorem h_lenQ {a : Addr} {xs : List V} (h : SqL K H a xs) (k : Q (.int (xs.length : Nat)) H) : hLen K [.ref a] H Q := ⟨.ref a, _, rfl, .inl ⟨xs, h, rfl⟩, k⟩
theorem h_lenT {a : Addr} {ds : List PyData} (h : Im K H (.ref a) (.tuple ds)) (k : Q (.int (ds.length : Nat)) H) : hLen K [.ref a] H Q := by
  cases h with
  | tup hs ha => exact ⟨.ref a, _, rfl, .inr ⟨_, hs, rfl⟩, by rw [ha.len]; exact k⟩
theorem h_lenS {z : Str} (h : z.length ≤ sizeLine) (k : Q (.int (z.length : Nat)) H) : hLen K [.str z] H Q := ⟨.str z, _, rfl, ⟨h, rfl⟩, k⟩
theorem h_setL {Q : Hp → Prop} (n : Nat) (h : Led K H0 S H L I) {a : Addr} {xs : List V} {m : Nat} (e : L[n]? = some (a, .raw (.lst xs))) (hs : H0 a = none ∨ a ∈ S) (hi : ixN xs.length i = some m) (k : ∀ H', Led K H0 S H' (L.set n (a, .raw (.lst (xs.set m v)))) I → Q H') : rSetL (.ref a) (.int i) v H Q :=
  ⟨a, xs, i, m, rfl, rfl, h.raw n e, hi, k _ (h.wr n e (fun b o q hb => by rw [upd_ne (by simpa using hb)]; exact q) (h.raw n e) rfl upd_same hs)⟩
theorem h_isL {a : Addr} {xs : List V} {P : Addr → Prop} (z : SqL K H a xs) (k : P a) : isL K (.ref a) H P := ⟨a, rfl, ⟨xs, z⟩, k⟩
theorem h_isLn {a : Addr} {xs : List V} {P : Addr → Prop} (n : Nat) (h : Led K H0 S H L I) (e : L[n]? = some (a, .raw (.lst xs))) (k : P a) : isL K (.ref a) H P := ⟨a, rfl, ⟨xs, h.sqL n e⟩, k⟩
theorem h_isLd {a : Addr} {ds : List PyData} {P : Addr → Prop} (n : Nat) (h : Led K H0 S H L I) (e : L[n]? = some (a, .dl ds)) (k : P a) : isL K (.ref a) H P := by
  obtain ⟨xs, ha, hx⟩ := h.at_ n a _ e
  exact ⟨a, rfl, ⟨xs, SqL.of ha⟩, k⟩
theorem h_isT {a : Addr} {ds : List PyData} {P : Addr → Prop} (h : Im K H (.ref a) (.tuple ds)) (k : P a) : isT K (.ref a) H P := by
  cases h with
  | tup hs ha => exact ⟨a, rfl, ⟨_, hs⟩, k⟩
theorem h_br {p : Prop} [Decidable p] {t u : TS} (h1 : p → t D σ H) (h2 : ¬ p → u D σ H) : Br (decide p) t u D σ H := by
  unfold Br
  by_cases h : p
  · rw [if_pos (decide_eq_true h)]
    exact h1 h
  · rw [if_neg (by rw [decide_eq_false h]; exact Bool.false_ne_true)]
    exact h2 h
theorem h_brn {p : Prop} [Decidable p] {t u : TS} (h1 : ¬ p → t D σ H) (h2 : p → u D σ H) : Br (!decide p) t u D σ H := by
  unfold Br
  by_cases h : p
  · rw [decide_eq_true h]
    exact iteF (h2 h)
  · rw [decide_eq_false h]
    exact iteT (h1 h)
theorem h_brb {b : Bool} {t u : TS} (h1 : b = true → t D σ H) (h2 : b = false → u D σ H) : Br b t u D σ H := by
  cases b
  · exact iteF (h2 rfl)
  · exact iteT (h1 rfl)
theorem h_brE {p : Prop} [Decidable p] {t u : TE} (h1 : p → t σ H Q) (h2 : ¬ p → u σ H Q) : BrE (decide p) t u Q σ H := by
  unfold BrE
  by_cases h : p
  · rw [if_pos (decide_eq_true h)]
    exact h1 h
  · rw [if_neg (by rw [decide_eq_false h]; exact Bool.false_ne_true)]
    exact h2 h
theorem h_brEb {b : Bool} {t u : TE} (h1 : b = true → t σ H Q) (h2 : b = false → u σ H Q) : BrE b t u Q σ H := by
  cases b
  · exact iteF (h2 rfl)
  · exact iteT (h1 rfl)
theorem h_brT {t u : TS} (h1 : t D σ H) : Br true t u D σ H := iteT h1
theorem h_brF {t u : TS} (h1 : u D σ H) : Br false t u D σ H := iteF h1
theorem h_brET {t u : TE} (h1 : t σ H Q) : BrE true t u Q σ H := iteT h1
theorem h_brEF {t u : TE} (h1 : u σ H Q) : BrE false t u Q σ H := iteF h1
theorem h_ite {p A B : Prop} [Decidable p] (h1 : p → A) (h2 : ¬ p → B) : if decide p = true then A else B := by
  by_cases h : p
  · rw [if_pos (decide_eq_true h)]
    exact h1 h
  · rw [if_neg (by rw [decide_eq_false h]; exact Bool.false_ne_true)]
    exact h2 h
theorem h_itn {p A B : Prop} [Decidable p] (h1 : ¬ p → A) (h2 : p → B) : if (!decide p) = true then A else B := by
  by_cases h : p
  · rw [decide_eq_true h]
    exact iteF (h2 h)
  · rw [decide_eq_false h]
    exact iteT (h1 h)
theorem h_itb {b : Bool} {A B : Prop} (h1 : b = true → A) (h2 : b = false → B) : if b = true then A else B := by
  cases b
  · exact iteF (h2 rfl)
  · exact iteT (h1 rfl)
/-! ### numbers -/
theorem cdiv_ok {i j : Int} (h1 : 0 < j) (h2 : j < 1073741824) : CDiv i j := ⟨h1, h2⟩
theorem cmul_l {i j : Int} (h1 : -(2 ^ 64) < i) (h2 : i < 2 ^ 64) : CMul i j := .inl ⟨h1, h2⟩
theorem cmul_r {i j : Int} (h1 : -(2 ^ 64) < j) (h2 : j < 2 ^ 64) : CMul i j := .inr ⟨h1, h2⟩
theorem h_mr {P : Prop} {i j : Int} (h1 : -(2 ^ 64) < j) (h2 : j < 2 ^ 64) (k : P) : CMul i j ∧ P := ⟨.inr ⟨h1, h2⟩, k⟩
theorem h_ml {P : Prop} {i j : Int} (h1 : -(2 ^ 64) < i) (h2 : i < 2 ^ 64) (k : P) : CMul i j ∧ P := ⟨.inl ⟨h1, h2⟩, k⟩
theorem h_dv {P : Prop} {i j : Int} (h1 : 0 < j) (h2 : j < 1073741824) (k : P) : CDiv i j ∧ P := ⟨⟨h1, h2⟩, k⟩
theorem h_pw {P : Prop} {i j : Int} (h1 : 0 ≤ j) (h2 : j ≤ 1000000) (h3 : i.natAbs < 2 ^ 64) (k : P) : CPow i j ∧ P := ⟨⟨h1, h2, h3⟩, k⟩
theorem cpow_ok {i j : Int} (h1 : 0 ≤ j) (h2 : j ≤ 1000000) (h3 : i.natAbs < 2 ^ 64) : CPow i j := ⟨h1, h2, h3⟩
theorem ixN_nn {n : Nat} {i : Int} (h0 : 0 ≤ i) (h : i < n) : ixN n i = some i.toNat := by
  unfold ixN
  rw [if_pos h0, if_pos h]
theorem at_ints {ns : List Int} {i : Int} (h0 : 0 ≤ i) (h : i < ns.length) : atI (ns.map V.int) i = some (.int (ns.getD i.toNat 0)) := by
  have h2 : i.toNat < ns.length := by omega
  refine at_nn h0 ?_
  rw [List.getElem?_map, List.getElem?_eq_getElem h2, List.getD_eq_getElem?_getD, List.getElem?_eq_getElem h2]
  rfl
/-! ### loops -/
theorem lpR {lo : Int} {n : Nat} (Pv : Nat → L2.St → Hp → Prop) (h0 : Pv 0 σ H)
    (hs : ∀ i σ H, i < n → Pv i σ H → g (.int (lo + i)) σ H fun σ2 H2 => tb { D with nx := Pv (i + 1), ct := Pv (i + 1), bk := D.nx } σ2 H2) (hd : ∀ σ H, Pv n σ H → D.nx σ H) : Lp (Itr lo n) g tb D σ H :=
  for_range Pv h0 hs hd
theorem lpL {a : Addr} {xs : List V} (Pv : Nat → L2.St → Hp → Prop) (h0 : Pv 0 σ H) (hl : ∀ i σ H, i ≤ xs.length → Pv i σ H → SqL K H a xs)
    (hs : ∀ i x σ H, xs[i]? = some x → Pv i σ H → g x σ H fun σ2 H2 => tb { D with nx := Pv (i + 1), ct := Pv (i + 1), bk := D.nx } σ2 H2) (hd : ∀ σ H, Pv xs.length σ H → D.nx σ H) : Lp (Itl K a) g tb D σ H :=
  for_list Pv h0 hl hs hd
theorem lpT {a : Addr} {xs : List V} (Pv : Nat → L2.St → Hp → Prop) (h0 : Pv 0 σ H) (hl : ∀ i σ H, i ≤ xs.length → Pv i σ H → SqT K H a xs)
    (hs : ∀ i x σ H, xs[i]? = some x → Pv i σ H → g x σ H fun σ2 H2 => tb { D with nx := Pv (i + 1), ct := Pv (i + 1), bk := D.nx } σ2 H2) (hd : ∀ σ H, Pv xs.length σ H → D.nx σ H) : Lp (Itt K a) g tb D σ H :=
  for_tup Pv h0 hl hs hd
/-- a list made; Pv: the list's place, the turn, the heap -/
theorem lcR {lo : Int} {n : Nat} (h : Led K H0 S H L I) (Pv : Addr → Nat → Hp → Prop) (h0 : ∀ p H', H0 p = none ∨ p ∈ S → Led K H0 S H' ((p, .raw (.lst [])) :: L) I → Pv p 0 H')
    (hs : ∀ p i H, i < n → Pv p i H → g (.int (lo + i)) (wipe σ vs) H fun σ2 H2 => wipe σ2 vs = wipe σ vs ∧ tt σ2 H2 fun b H3 =>
      if b = true then te σ2 H3 fun y H4 => ∃ acc, H4 p = some (.lst acc) ∧ acc.length < sizeLine ∧ Pv p (i + 1) (upd H4 p (.lst (acc ++ [y]))) else Pv p (i + 1) H3)
    (hd : ∀ p H, Pv p n H → Q (.ref p) H) : Lc (Itr lo n) g tt te vs σ H Q := fun p hp => lc_range (Pv p) (h0 p _ (h.fr hp) (h.alloc hp)) (hs p) (hd p)
theorem lcL {a : Addr} {xs : List V} (h : Led K H0 S H L I) (Pv : Addr → Nat → Hp → Prop) (h0 : ∀ p H', H0 p = none ∨ p ∈ S → Led K H0 S H' ((p, .raw (.lst [])) :: L) I → Pv p 0 H')
    (hl : ∀ p i H, i ≤ xs.length → Pv p i H → SqL K H a xs)
    (hs : ∀ p i x H, xs[i]? = some x → Pv p i H → g x (wipe σ vs) H fun σ2 H2 => wipe σ2 vs = wipe σ vs ∧ tt σ2 H2 fun b H3 =>
      if b = true then te σ2 H3 fun y H4 => ∃ acc, H4 p = some (.lst acc) ∧ acc.length < sizeLine ∧ Pv p (i + 1) (upd H4 p (.lst (acc ++ [y]))) else Pv p (i + 1) H3)
    (hd : ∀ p H, Pv p xs.length H → Q (.ref p) H) : Lc (Itl K a) g tt te vs σ H Q := fun p hp => lc_list (Pv p) (h0 p _ (h.fr hp) (h.alloc hp)) (hl p) (hs p) (hd p)
theorem lcT {a : Addr} {xs : List V} (h : Led K H0 S H L I) (Pv : Addr → Nat → Hp → Prop) (h0 : ∀ p H', H0 p = none ∨ p ∈ S → Led K H0 S H' ((p, .raw (.lst [])) :: L) I → Pv p 0 H')
    (hl : ∀ p i H, i ≤ xs.length → Pv p i H → SqT K H a xs)
    (hs : ∀ p i x H, xs[i]? = some x → Pv p i H → g x (wipe σ vs) H fun σ2 H2 => wipe σ2 vs = wipe σ vs ∧ tt σ2 H2 fun b H3 =>
      if b = true then te σ2 H3 fun y H4 => ∃ acc, H4 p = some (.lst acc) ∧ acc.length < sizeLine ∧ Pv p (i + 1) (upd H4 p (.lst (acc ++ [y]))) else Pv p (i + 1) H3)
    (hd : ∀ p H, Pv p xs.length H → Q (.ref p) H) : Lc (Itt K a) g tt te vs σ H Q := fun p hp => lc_tup (Pv p) (h0 p _ (h.fr hp) (h.alloc hp)) (hl p) (hs p) (hd p)
/-- the element comes to the list -/
theorem h_lcE {p : Addr} {acc : List V} {P : Hp → Prop} (n : Nat) (h : Led K H0 S H L I) (e : L[n]? = some (p, .raw (.lst acc))) (hs : H0 p = none ∨ p ∈ S) (z : acc.length < sizeLine)
    (k : ∀ H', Led K H0 S H' (L.set n (p, .raw (.lst (acc ++ [y])))) I → P H') : ∃ acc, H p = some (.lst acc) ∧ acc.length < sizeLine ∧ P (upd H p (.lst (acc ++ [y]))) :=
  ⟨acc, h.raw n e, z, k _ (h.wr n e (fun b o q hb => by rw [upd_ne (by simpa using hb)]; exact q) (h.raw n e) rfl upd_same hs)⟩
theorem h_lcD {p : Addr} {ds : List PyData} {d : PyData} {P : Hp → Prop} (n : Nat) (h : Led K H0 S H L I) (e : L[n]? = some (p, .dl ds)) (hd : Im K H y d) (hs : H0 p = none ∨ p ∈ S) (z : ds.length < sizeLine)
    (k : ∀ H', Led K H0 S H' (L.set n (p, .dl (ds ++ [d]))) I → P H') : ∃ acc, H p = some (.lst acc) ∧ acc.length < sizeLine ∧ P (upd H p (.lst (acc ++ [y]))) := by
  obtain ⟨xs, ha, hx⟩ := h.at_ n p _ e
  have hk : KBs H (upd H p (.lst (xs ++ [y]))) [p] := fun b o q hb => by rw [upd_ne (by simpa using hb)]; exact q
  have hN : NoT H [p] := NoT.one ha rfl
  exact ⟨xs, ha, by rw [hx.len]; exact z, k _ (h.wr n e hk ha rfl ⟨_, upd_same, (hx.keep hk hN).app (Ims.one (hd.keep hk hN))⟩ hs)⟩
theorem h_accL {p : Addr} {acc : List V} (n : Nat) (h : Led K H0 S H L I) (e : L[n]? = some (p, .raw (.lst acc))) (hs : H0 p = none ∨ p ∈ S) (z : acc.length < sizeLine) :
    ∃ acc', H p = some (.lst acc') ∧ acc'.length < sizeLine ∧ Led K H0 S (upd H p (.lst (acc' ++ [y]))) (L.set n (p, .raw (.lst (acc ++ [y])))) I :=
  h_lcE (P := fun H' => Led K H0 S H' (L.set n (p, .raw (.lst (acc ++ [y])))) I) n h e hs z fun H' h' => h'
theorem h_accD {p : Addr} {ds : List PyData} {d : PyData} (n : Nat) (h : Led K H0 S H L I) (e : L[n]? = some (p, .dl ds)) (hd : Im K H y d) (hs : H0 p = none ∨ p ∈ S) (z : ds.length < sizeLine) :
    ∃ acc, H p = some (.lst acc) ∧ acc.length < sizeLine ∧ Led K H0 S (upd H p (.lst (acc ++ [y]))) (L.set n (p, .dl (ds ++ [d]))) I :=
  h_lcD (P := fun H' => Led K H0 S H' (L.set n (p, .dl (ds ++ [d]))) I) n h e hd hs z fun H' h' => h'
theorem h_nT {A B : Prop} (k : B) : if (!true) = true then A else B := iteF k
theorem h_nF {A B : Prop} (k : A) : if (!false) = true then A else B := iteT k
theorem h_eqr {α : Type} {a : α} {P : Prop} (k : P) : a = a ∧ P := ⟨rfl, k⟩
/-- a while by an invariant and a number that falls -/
theorem lpW {c : TT} (Pv : Nat → L2.St → Hp → Prop) (m0 : Nat) (h0 : Pv m0 σ H)
    (hs : ∀ m σ H, Pv m σ H → c σ H fun b H1 => if b = true then ∃ N : L2.St → Hp → Prop, (∀ σ' H', N σ' H' → ∃ m', m' < m ∧ Pv m' σ' H') ∧ tb { D with nx := N, ct := N, bk := D.nx } σ H1 else D.nx σ H1) : tWhile c tb D σ H :=
  ⟨Pv, ⟨m0, h0⟩, hs⟩
/-- a list of ints, from a list of numbers -/
theorem Led.toD (h : Led K H0 S H L I) (n : Nat) {a : Addr} {xs : List V} {ds : List PyData} (e : L[n]? = some (a, .raw (.lst xs))) (hd : Ims K H xs ds) : Led K H0 S H (L.set n (a, .dl ds)) I := by
  have hn : n < L.length := (List.getElem?_eq_some_iff.mp e).1
  refine ⟨?_, fun m b x r => ?_, h.im, h.kp⟩
  · have e2 : (L.set n (a, Ent.dl ds)).map (·.1) = L.map (·.1) := by
      rw [List.map_set]
      refine List.ext_getElem? fun i => ?_
      by_cases hi : n = i
      · subst hi
        rw [List.getElem?_set_self (by rw [List.length_map]; exact hn), List.getElem?_map, e]
        rfl
      · rw [List.getElem?_set_ne hi]
    rw [e2]
    exact h.nd
  · by_cases hm : n = m
    · subst hm
      rw [List.getElem?_set_self hn] at r
      cases r
      exact ⟨xs, h.raw n e, hd⟩
    · rw [List.getElem?_set_ne hm] at r
      exact h.at_ m b x r
/-- loops over data -/
theorem Im.isRef {ds : List PyData} (h : Im K H v (.tuple ds)) : ∃ a, v = .ref a := by
  cases h with
  | tup _ _ => exact ⟨_, rfl⟩
theorem lpTI {a : Addr} {ds : List PyData} (Pv : Nat → L2.St → Hp → Prop) (h0 : Pv 0 σ H) (hl : ∀ i σ H, i ≤ ds.length → Pv i σ H → Im K H (.ref a) (.tuple ds))
    (hs : ∀ i x d σ H, ds[i]? = some d → Im K H x d → Pv i σ H → g x σ H fun σ2 H2 => tb { D with nx := Pv (i + 1), ct := Pv (i + 1), bk := D.nx } σ2 H2) (hd : ∀ σ H, Pv ds.length σ H → D.nx σ H) : Lp (Itt K a) g tb D σ H := by
  refine ⟨fun i m σ H => m = ds.length - i ∧ i ≤ ds.length ∧ Pv i σ H, ⟨ds.length, rfl, Nat.zero_le _, h0⟩, ?_⟩
  rintro i m σ H ⟨rfl, hi, p⟩
  cases hl i σ H hi p with
  | @tup _ xs _ hq hx =>
    have hlen := hx.len
    by_cases hlt : i < ds.length
    · have hlt2 : i < xs.length := by omega
      refine .inr ⟨⟨xs, xs[i], hq, List.getElem?_eq_getElem hlt2⟩, Pv (i + 1), fun σ' H' p' => ⟨ds.length - (i + 1), by omega, rfl, hlt, p'⟩, fun x H' y => ?_⟩
      obtain ⟨e, y⟩ := y
      subst e
      obtain ⟨d, hd1, hd2⟩ := hx.get (y xs hq)
      exact hs i x d σ _ hd1 hd2 p
    · have e : i = ds.length := by omega
      subst e
      exact .inl ⟨⟨xs, hq, by omega⟩, hd σ H p⟩
theorem lpLD {a : Addr} {ds : List PyData} (Pv : Nat → L2.St → Hp → Prop) (h0 : Pv 0 σ H) (hl : ∀ i σ H, i ≤ ds.length → Pv i σ H → EntAt K H a (.dl ds))
    (hs : ∀ i x d σ H, ds[i]? = some d → Im K H x d → Pv i σ H → g x σ H fun σ2 H2 => tb { D with nx := Pv (i + 1), ct := Pv (i + 1), bk := D.nx } σ2 H2) (hd : ∀ σ H, Pv ds.length σ H → D.nx σ H) : Lp (Itl K a) g tb D σ H := by
  refine ⟨fun i m σ H => m = ds.length - i ∧ i ≤ ds.length ∧ Pv i σ H, ⟨ds.length, rfl, Nat.zero_le _, h0⟩, ?_⟩
  rintro i m σ H ⟨rfl, hi, p⟩
  obtain ⟨xs, ha, hx⟩ := hl i σ H hi p
  have hq : SqL K H a xs := SqL.of ha
  have hlen := hx.len
  by_cases hlt : i < ds.length
  · have hlt2 : i < xs.length := by omega
    refine .inr ⟨⟨xs, xs[i], hq, List.getElem?_eq_getElem hlt2⟩, Pv (i + 1), fun σ' H' p' => ⟨ds.length - (i + 1), by omega, rfl, hlt, p'⟩, fun x H' y => ?_⟩
    obtain ⟨e, y⟩ := y
    subst e
    obtain ⟨d, hd1, hd2⟩ := hx.get (y xs hq)
    exact hs i x d σ _ hd1 hd2 p
  · have e : i = ds.length := by omega
    subst e
    exact .inl ⟨⟨xs, hq, by omega⟩, hd σ H p⟩
theorem lcLD {a : Addr} {ds : List PyData} (h : Led K H0 S H L I) (Pv : Addr → Nat → Hp → Prop) (h0 : ∀ p H', H0 p = none ∨ p ∈ S → Led K H0 S H' ((p, .raw (.lst [])) :: L) I → Pv p 0 H')
    (hl : ∀ p i H, i ≤ ds.length → Pv p i H → EntAt K H a (.dl ds))
    (hs : ∀ p i x d H, ds[i]? = some d → Im K H x d → Pv p i H → g x (wipe σ vs) H fun σ2 H2 => wipe σ2 vs = wipe σ vs ∧ tt σ2 H2 fun b H3 =>
      if b = true then te σ2 H3 fun y H4 => ∃ acc, H4 p = some (.lst acc) ∧ acc.length < sizeLine ∧ Pv p (i + 1) (upd H4 p (.lst (acc ++ [y]))) else Pv p (i + 1) H3)
    (hd : ∀ p H, Pv p ds.length H → Q (.ref p) H) : Lc (Itl K a) g tt te vs σ H Q := by
  intro p hp
  refine ⟨fun i m H => m = ds.length - i ∧ i ≤ ds.length ∧ Pv p i H, ⟨ds.length, rfl, Nat.zero_le _, h0 p _ (h.fr hp) (h.alloc hp)⟩, ?_⟩
  rintro i m H ⟨rfl, hi, q⟩
  obtain ⟨xs, ha, hx⟩ := hl p i H hi q
  have hq : SqL K H a xs := SqL.of ha
  have hlen := hx.len
  by_cases hlt : i < ds.length
  · have hlt2 : i < xs.length := by omega
    refine .inr ⟨⟨xs, xs[i], hq, List.getElem?_eq_getElem hlt2⟩, Pv p (i + 1), fun H' p' => ⟨ds.length - (i + 1), by omega, rfl, hlt, p'⟩, fun x H' y => ?_⟩
    obtain ⟨e, y⟩ := y
    subst e
    obtain ⟨d, hd1, hd2⟩ := hx.get (y xs hq)
    exact hs p i x d _ hd1 hd2 q
  · have e : i = ds.length := by omega
    subst e
    exact .inl ⟨⟨xs, hq, by omega⟩, hd p H q⟩
/-- data's form -/
def lay (n : Nat) (d : PyData) : Prop := d.canLay0 = true ∧ d.depth ≤ n
theorem lay_all : ∀ {n : Nat} {ds : List PyData}, (∀ d ∈ ds, lay n d) → PyData.canLayAll0 ds = true ∧ PyData.depthAll ds ≤ n
  | n, [], _ => ⟨by simp [PyData.canLayAll0], by simp [PyData.depthAll]⟩
  | n, d :: ds, h => by
    obtain ⟨h1, h2⟩ := h d List.mem_cons_self
    obtain ⟨h3, h4⟩ := lay_all (n := n) (ds := ds) fun x hx => h x (List.mem_cons_of_mem _ hx)
    refine ⟨by simp [PyData.canLayAll0, h1, h3], ?_⟩
    simp only [PyData.depthAll]
    omega
theorem lay_list {n : Nat} {ds : List PyData} (h : ∀ d ∈ ds, lay n d) : lay (n + 1) (.list ds) := by
  obtain ⟨h1, h2⟩ := lay_all h
  refine ⟨by simp [PyData.canLay0, h1], ?_⟩
  simp only [PyData.depth]
  omega
theorem lay_tup {n : Nat} {ds : List PyData} (h : ∀ d ∈ ds, lay n d) : lay (n + 1) (.tuple ds) := by
  obtain ⟨h1, h2⟩ := lay_all h
  refine ⟨by simp [PyData.canLay0, h1], ?_⟩
  simp only [PyData.depth]
  omega
theorem lay.shaped {n : Nat} {d : PyData} (h : lay n d) (hn : n ≤ 64 := by decide) : SeqAt.shaped d = true := by
  unfold SeqAt.shaped
  rw [h.1, decide_eq_true (Nat.le_trans h.2 hn)]
  rfl
theorem lay_int (i : Int) : lay 0 (.int i) := ⟨by simp [PyData.canLay0], by simp [PyData.depth]⟩
theorem lay_bool (b : Bool) : lay 0 (.bool b) := ⟨by simp [PyData.canLay0], by simp [PyData.depth]⟩
theorem lay_none : lay 0 .none := ⟨by simp [PyData.canLay0], by simp [PyData.depth]⟩
theorem lay_str {x : Str} (h : PyData.strOk x = true) : lay 0 (.str x) := ⟨by simp [PyData.canLay0, h], by simp [PyData.depth]⟩
theorem lay.up {n m : Nat} {d : PyData} (h : lay n d) (hm : n ≤ m) : lay m d := ⟨h.1, Nat.le_trans h.2 hm⟩
/-- in, not in -/
theorem Led.dpL (h : Led K H0 S H L I) (n : Nat) {a : Addr} {ds : List PyData} (e : L[n]? = some (a, .dl ds)) : Dp K H (.ref a) (.list ds) := by
  obtain ⟨xs, ha, hx⟩ := h.at_ n a _ e
  exact .lst (SqL.of ha) hx.dp
theorem h_ninD (n : Nat) (h : Led K H0 S H L I) {a : Addr} {ds : List PyData} {d : PyData} (e : L[n]? = some (a, .dl ds)) (hx : Im K H x d) (h1 : SeqAt.shaped d = true) (h2 : SeqAt.shaped (.list ds) = true) (k : Q (.bl (!ds.any fun z => PyData.eqv z d)) H) : uNin K x (.ref a) H Q :=
  .inr ⟨d, ds, hx.dp, h.dpL n e, h1, h2, k⟩
theorem h_inD (n : Nat) (h : Led K H0 S H L I) {a : Addr} {ds : List PyData} {d : PyData} (e : L[n]? = some (a, .dl ds)) (hx : Im K H x d) (h1 : SeqAt.shaped d = true) (h2 : SeqAt.shaped (.list ds) = true) (k : Q (.bl (ds.any fun z => PyData.eqv z d)) H) : uIn K x (.ref a) H Q :=
  .inr ⟨d, ds, hx.dp, h.dpL n e, h1, h2, k⟩
theorem at_map {α : Type} {f : α → V} {l : List α} {i : Int} (h0 : 0 ≤ i) (h : i < l.length) : ∃ z ∈ l, l[i.toNat]? = some z ∧ atI (l.map f) i = some (f z) := by
  have h2 : i.toNat < l.length := by omega
  refine ⟨l[i.toNat], List.getElem_mem h2, List.getElem?_eq_getElem h2, at_nn h0 ?_⟩
  rw [List.getElem?_map, List.getElem?_eq_getElem h2]
  rfl
/-- slices of tuples -/
def cutD (xs : List PyData) (lo hi : Option Int) : List PyData := (xs.drop (HT.sIx xs.length 0 lo)).take (HT.sIx xs.length xs.length hi - HT.sIx xs.length 0 lo)
theorem h_slT {a : Addr} {ds : List PyData} {lo hi : Option Int} (h : Led K H0 S H L I) (hd : Im K H (.ref a) (.tuple ds)) (k : ∀ p H', Led K H0 S H' L ((.ref p, .tuple (cutD ds lo hi)) :: I) → Q (.ref p) H') : uSl K (.ref a) lo hi H Q := by
  cases id hd with
  | @tup _ xs _ hq hx =>
    have hlen := hx.len
    refine .inr (.inl ⟨a, xs, rfl, hq, fun hw => ?_, fun hw p hp => ?_⟩)
    · refine k a H (h.imNew ?_)
      have e : cutD ds lo hi = ds := by
        unfold cutD
        rw [← hlen, hw.1, hw.2, hlen, List.drop_zero]
        exact List.take_of_length_le (Nat.le_refl _)
      rw [e]
      exact hd
    · refine k p _ (h.allocT hp ?_)
      unfold cutD cutV
      rw [hlen]
      exact Ims.take _ (Ims.drop _ hx)
theorem cutD_pre (ds : List PyData) (k : Nat) : cutD ds none (some (k : Int)) = ds.take k := by
  unfold cutD
  rw [HT.sIx_none, HT.sIx_nat, List.drop_zero, Nat.sub_zero]
  by_cases h : k ≤ ds.length
  · rw [Nat.min_eq_left h]
  · rw [Nat.min_eq_right (by omega), List.take_of_length_le (Nat.le_refl _), List.take_of_length_le (by omega)]
theorem cutD_suf (ds : List PyData) (k : Nat) : cutD ds (some (k : Int)) none = ds.drop k := by
  unfold cutD
  rw [HT.sIx_none, HT.sIx_nat]
  by_cases h : k ≤ ds.length
  · rw [Nat.min_eq_left h]
    exact List.take_of_length_le (by rw [List.length_drop]; exact Nat.le_refl _)
  · rw [Nat.min_eq_right (by omega), List.drop_eq_nil_of_le (Nat.le_refl _), List.drop_eq_nil_of_le (by omega), List.take_nil]
theorem h_slPre {a : Addr} {ds : List PyData} (h : Led K H0 S H L I) (hd : Im K H (.ref a) (.tuple ds)) (h0 : 0 ≤ i) (k : ∀ p H', Led K H0 S H' L ((.ref p, .tuple (ds.take i.toNat)) :: I) → Q (.ref p) H') : uSl K (.ref a) none (some i) H Q :=
  h_slT h hd fun p H' h' => k p H' (by
    have e : cutD ds none (some i) = ds.take i.toNat := by
      have q := cutD_pre ds i.toNat
      rw [Int.toNat_of_nonneg h0] at q
      exact q
    rw [e] at h'
    exact h')
/-- == of data -/
theorem h_eqD {d e : PyData} (hx : Dp K H x d) (hy : Dp K H y e) (h1 : SeqAt.shaped d = true) (h2 : SeqAt.shaped e = true) (k : Q (.bl (PyData.eqv d e)) H) : hEq K x y H Q := .inr ⟨d, e, hx, hy, h1, h2, k⟩
theorem h_neD {d e : PyData} (hx : Dp K H x d) (hy : Dp K H y e) (h1 : SeqAt.shaped d = true) (h2 : SeqAt.shaped e = true) (k : Q (.bl (!PyData.eqv d e)) H) : hNe K x y H Q := .inr ⟨d, e, hx, hy, h1, h2, k⟩
theorem h_eqI {d e : PyData} (hx : Im K H x d) (hy : Im K H y e) (h1 : SeqAt.shaped d = true) (h2 : SeqAt.shaped e = true) (k : Q (.bl (PyData.eqv d e)) H) : hEq K x y H Q := h_eqD hx.dp hy.dp h1 h2 k
theorem h_neI {d e : PyData} (hx : Im K H x d) (hy : Im K H y e) (h1 : SeqAt.shaped d = true) (h2 : SeqAt.shaped e = true) (k : Q (.bl (!PyData.eqv d e)) H) : hNe K x y H Q := h_neD hx.dp hy.dp h1 h2 k
/-- tuple(list) -/
theorem h_tupOf (n : Nat) (h : Led K H0 S H L I) {a : Addr} {ds : List PyData} (e : L[n]? = some (a, .dl ds)) (k : ∀ p H', Led K H0 S H' L ((.ref p, .tuple ds) :: I) → Q (.ref p) H') : hTupOf K [.ref a] H Q := by
  obtain ⟨xs, ha, hx⟩ := h.at_ n a _ e
  exact ⟨a, xs, rfl, .inl ⟨SqL.of ha, fun p hp => k p _ (h.allocT hp hx)⟩⟩
theorem h_listOf (n : Nat) (h : Led K H0 S H L I) {a : Addr} {xs : List V} (e : L[n]? = some (a, .raw (.lst xs))) (k : ∀ p H', (H0 p = none ∨ p ∈ S) → Led K H0 S H' ((p, .raw (.lst xs)) :: L) I → Q (.ref p) H') : hListOf K [.ref a] H Q :=
  ⟨a, xs, rfl, .inl (h.sqL n e), fun p hp => k p _ (h.fr hp) (h.alloc hp)⟩
/-- isinstance of a bool, an int -/
theorem h_isiB {b : Bool} (k : Q (.bl true) H) : rIsi K [.bl b, .ty "bool"] H Q := ⟨_, _, _, _, true, rfl, .ty "bool", .base (.bl b), kit_ty (by decide +kernel), k⟩
theorem Led.tl {q : V × PyData} (h : Led K H0 S H L (q :: I)) : Led K H0 S H L I := ⟨h.nd, h.at_, fun n v d e => h.im (n + 1) v d e, h.kp⟩
theorem Led.tlL {q : Addr × Ent} (h : Led K H0 S H (q :: L) I) : Led K H0 S H L I := ⟨(List.nodup_cons.mp h.nd).2, fun n a d e => h.at_ (n + 1) a d e, h.im, h.kp⟩
theorem Led.noI (h : Led K H0 S H L I) : Led K H0 S H L [] := ⟨h.nd, h.at_, fun n v d e => by simp at e, h.kp⟩
theorem any_take {α : Type} {l : List α} {i : Nat} {x : α} (h : l[i]? = some x) (f : α → Bool) : (l.take (i + 1)).any f = ((l.take i).any f || f x) := by
  rw [List.take_add_one, h, List.any_append]
  simp
theorem any_of {α : Type} {l : List α} {i : Nat} {x : α} (h : l[i]? = some x) {f : α → Bool} (hf : f x = true) : l.any f = true := List.any_eq_true.mpr ⟨x, List.mem_of_getElem? h, hf⟩
theorem map_get {α β : Type} {f : α → β} {l : List α} {i : Nat} {d : β} (h : (l.map f)[i]? = some d) : ∃ z, l[i]? = some z ∧ f z = d := by
  rw [List.getElem?_map] at h
  exact Option.map_eq_some_iff.mp h
theorem map_take {α β : Type} {l : List α} {i : Nat} {x : α} (h : l[i]? = some x) (f : α → β) : (l.take i).map f ++ [f x] = (l.take (i + 1)).map f := by
  rw [List.take_add_one, h, List.map_append]
  rfl
theorem snoc_map {α β : Type} (l : List α) (x : α) (f : α → β) : l.map f ++ [f x] = (l ++ [x]).map f := by rw [List.map_append]; rfl
theorem map_snoc (ds : List Int) (z : Int) : ds.map V.int ++ [V.int z] = (ds ++ [z]).map V.int := by rw [List.map_append]; rfl
/-- unpacking -/
theorem h_gtup {n : Nat} {a : Addr} {ds : List PyData} {gs : TGs} {Q : L2.St → Hp → Prop} (h : Im K H (.ref a) (.tuple ds)) (hn : ds.length = n) (k : ∀ xs, Ims K H xs ds → gs xs σ H Q) : gTup K n gs (.ref a) σ H Q := by
  cases h with
  | tup hs ha => exact ⟨a, _, rfl, hs, ha.len.trans hn, k _ ha⟩
theorem h_gtup2 {a : Addr} {d1 d2 : PyData} {gs : TGs} {Q : L2.St → Hp → Prop} (h : Im K H (.ref a) (.tuple [d1, d2])) (k : ∀ v1 v2, Im K H v1 d1 → Im K H v2 d2 → gs [v1, v2] σ H Q) : gTup K 2 gs (.ref a) σ H Q :=
  h_gtup h rfl fun xs hx => by
    cases hx with
    | cons h1 t =>
      cases t with
      | cons h2 t =>
        cases t
        exact k _ _ h1 h2
end

/-! ### the promises of the laws' own helpers -/
/-- where the classes stand -/
structure Ad where
  c_RecordError : Addr
  c_BadSchema : Addr
  c_BadField : Addr
  c_OutOfRange : Addr
  c_Full : Addr
  c_Leased : Addr
  c_BadImage : Addr
  c_BadJournal : Addr
  c_BadArgument : Addr
  c_Work : Addr
  c_Device : Addr
  c_Words : Addr
def A0 : Ad := ⟨0, 0, 0, 0, 0, 0, 0, 0, 0, 0, 0, 0⟩
def sp__law_cell (K : PySem.W.Frag) (A : Ad) : Sp := fun vs H Q _ => ∃ (a : Addr) (ns : List Int) (i : Int), vs = [.ref a, .int i] ∧ SqL K H a (ns.map V.int) ∧ 0 ≤ i ∧ ∀ z H', Same H H' → Q (.int z) H'
def sp__law_digits (K : PySem.W.Frag) (A : Ad) : Sp := fun vs H Q _ => ∃ (a : Addr) (ns : List Int) (f l : Int), vs = [.ref a, .int f, .int l] ∧ SqL K H a (ns.map V.int) ∧ 0 ≤ f ∧ f ≤ 1000 ∧ 0 ≤ l ∧ l ≤ 1000 ∧
  ∀ (p : Addr) (H' : Hp) (ds : List Int), Same H H' → H p = none → H' p = some (.lst (ds.map V.int)) → Q (.ref p) H'
def sp__law_draw (K : PySem.W.Frag) (A : Ad) : Sp := fun vs H Q _ => ∃ (b g : Addr) (ds : List Int) (i m : Int), vs = [.ref b, .int m] ∧ H b = some (.lst [.ref g, .int i]) ∧ H g = some (.lst (ds.map V.int)) ∧ b ≠ g ∧ 0 ≤ i ∧ i < 2 ^ 60 ∧ 0 < m ∧
  ∀ z H', 0 ≤ z → z < m → KBs H H' [b] → H' b = some (.lst [.ref g, .int (i + 1)]) → Q (.int z) H'
section
variable {K : PySem.W.Frag} {A : Ad} {H0 H : Hp} {S : List Addr} {L : List (Addr × Ent)} {I : List (V × PyData)} {Q : VK} {E : XK}
/-- a draw: the box stands at the n-th place of the ledger, its digits right behind -/
theorem h_draw (n : Nat) (h : Led K H0 S H L I) {b g : Addr} {ds : List Int} {i m : Int} (e : L[n]? = some (b, .raw (.lst [.ref g, .int i]))) (e2 : L[n + 1]? = some (g, .raw (.lst (ds.map V.int)))) (h0 : 0 ≤ i) (h1 : i < 2 ^ 60) (h2 : 0 < m)
    (hs : H0 b = none ∨ b ∈ S) (k : ∀ z H', 0 ≤ z → z < m → Led K H0 S H' (L.set n (b, .raw (.lst [.ref g, .int (i + 1)]))) I → Q (.int z) H') : sp__law_draw K A [.ref b, .int m] H Q E :=
  ⟨b, g, ds, i, m, rfl, h.raw n e, h.raw (n + 1) e2, h.ne n (n + 1) e e2 (by omega), h0, h1, h2, fun z H' z0 z1 kb he => k z H' z0 z1 (h.wr n e kb (h.raw n e) rfl he hs)⟩
end

/-! ### words -/
abbrev Wd := Str × Int × Int × Bool
def wd (w : Wd) : PyData := .tuple [.str w.1, .int w.2.1, .int w.2.2.1, .bool w.2.2.2]
abbrev Hd := Int × List Wd
def hd (h : Hd) : PyData := .tuple [.int h.1, .tuple (h.2.map wd)]
def cw (w o : Wd) : Bool := decide (w.1 = o.1) && decide (w.2.1 = o.2.1) && (w.2.2.2 || o.2.2.2)
def confl (n : Int) (ws : List Wd) (hs : List Hd) : Bool := hs.any fun h => decide (h.1 = n) && ws.any fun w => h.2.any fun o => cw w o
theorem beq_str (a b : Str) : (a == b) = decide (a = b) := by
  by_cases h : a = b
  · simp [h]
  · simp [h]
theorem beq_int (a b : Int) : (a == b) = decide (a = b) := by
  by_cases h : a = b
  · simp [h]
  · simp [h]
theorem eqv_si (a c : Str) (b d : Int) : PyData.eqv (.tuple [.str a, .int b]) (.tuple [.str c, .int d]) = (decide (a = c) && decide (b = d)) := by
  simp only [PyData.eqv, PyData.eqvAll, beq_str, beq_int, Bool.and_true]
def sp_conflicts (K : PySem.W.Frag) (A : Ad) : Sp := fun vs H Q _ => ∃ (n : Int) (t h : Addr) (ws : List Wd) (hs : List Hd), vs = [.int n, .ref t, .ref h] ∧ Im K H (.ref t) (.tuple (ws.map wd)) ∧ EntAt K H h (.dl (hs.map hd)) ∧ (∀ w ∈ ws, PyData.strOk w.1 = true) ∧ (∀ h ∈ hs, ∀ w ∈ h.2, PyData.strOk w.1 = true) ∧
  ∀ H', Same H H' → Q (.bl (confl n ws hs)) H'
theorem lay_wd {w : Wd} (h : PyData.strOk w.1 = true) : lay 1 (wd w) := lay_tup fun d hd => by
  simp only [List.mem_cons, List.not_mem_nil, or_false] at hd
  rcases hd with rfl | rfl | rfl | rfl
  · exact lay_str h
  · exact lay_int _
  · exact lay_int _
  · exact lay_bool _
def w2 (w : Wd) : PyData := .tuple [.str w.1, .int w.2.1]
theorem lay_w2 {w : Wd} (h : PyData.strOk w.1 = true) : lay 1 (w2 w) := lay_tup fun d hd => by
  simp only [List.mem_cons, List.not_mem_nil, or_false] at hd
  rcases hd with rfl | rfl
  · exact lay_str h
  · exact lay_int _
def sp__law_words (K : PySem.W.Frag) (A : Ad) : Sp := fun vs H Q _ => ∃ (b g : Addr) (ds : List Int) (i : Int), vs = [.ref b] ∧ H b = some (.lst [.ref g, .int i]) ∧ H g = some (.lst (ds.map V.int)) ∧ b ≠ g ∧ 0 ≤ i ∧ i < 2 ^ 50 ∧
  ∀ p H' j (ws : List Wd), i ≤ j → j ≤ i + 100 → KBs H H' [b] → H' b = some (.lst [.ref g, .int j]) → (∀ w ∈ ws, PyData.strOk w.1 = true) → ws.length ≤ 10 → Im K H' (.ref p) (.tuple (ws.map wd)) → Q (.ref p) H'
section
variable {K : PySem.W.Frag} {A : Ad} {H0 H : Hp} {S : List Addr} {L : List (Addr × Ent)} {I : List (V × PyData)} {Q : VK} {E : XK}
theorem h_words (n : Nat) (h : Led K H0 S H L I) {b g : Addr} {ds : List Int} {i : Int} (e : L[n]? = some (b, .raw (.lst [.ref g, .int i]))) (e2 : L[n + 1]? = some (g, .raw (.lst (ds.map V.int)))) (h0 : 0 ≤ i) (h1 : i < 2 ^ 50)
    (hs : H0 b = none ∨ b ∈ S) (k : ∀ p H' j (ws : List Wd), i ≤ j → j ≤ i + 100 → (∀ w ∈ ws, PyData.strOk w.1 = true) → ws.length ≤ 10 → Led K H0 S H' (L.set n (b, .raw (.lst [.ref g, .int j]))) ((.ref p, .tuple (ws.map wd)) :: I) → Q (.ref p) H') : sp__law_words K A [.ref b] H Q E :=
  ⟨b, g, ds, i, rfl, h.raw n e, h.raw (n + 1) e2, h.ne n (n + 1) e e2 (by omega), h0, h1, fun p H' j ws j0 j1 kb he ok hz hi => k p H' j ws j0 j1 ok hz ((h.wr (e' := .raw (.lst [.ref g, .int j])) n e kb (h.raw n e) rfl he hs).imNew hi)⟩
end
def ff (n : Int) (h : Hd) (o w : Wd) : Bool := decide (h.1 = n) && (decide (o.1 = w.1) && decide (o.2.1 = w.2.1) && (o.2.2.2 || w.2.2.2))
def due (n : Int) (ws : List Wd) (hs : List Hd) : Bool := hs.any fun h => h.2.any fun o => ws.any fun w => ff n h o w
theorem due_eq (n : Int) (ws : List Wd) (hs : List Hd) : due n ws hs = confl n ws hs := by
  rw [Bool.eq_iff_iff]
  unfold due confl ff cw
  simp only [List.any_eq_true, Bool.and_eq_true, Bool.or_eq_true, decide_eq_true_eq]
  constructor
  · rintro ⟨h, hh, o, ho, w, hw, e, ⟨e1, e2⟩, e3⟩
    exact ⟨h, hh, e, w, hw, o, ho, ⟨e1.symm, e2.symm⟩, e3.symm⟩
  · rintro ⟨h, hh, e, w, hw, o, ho, ⟨e1, e2⟩, e3⟩
    exact ⟨h, hh, o, ho, w, hw, e, ⟨e1.symm, e2.symm⟩, e3.symm⟩
def sp_law (K : PySem.W.Frag) (A : Ad) : Sp := fun vs H Q _ => ∃ (a : Addr) (ns : List Int), vs = [.ref a] ∧ SqL K H a (ns.map V.int) ∧ ∀ H', Q (.bl true) H'

local macro_rules | `(tactic| walk_at "im") => `(tactic| (first | apply Im.int | apply Im.str | apply Im.bl | apply Im.non | assumption | (apply h_imm 0; (case h => assumption); (case e => with_unfolding_all rfl)) | (apply h_imm 1; (case h => assumption); (case e => with_unfolding_all rfl)) | (apply h_imm 2; (case h => assumption); (case e => with_unfolding_all rfl)) | (apply h_imm 3; (case h => assumption); (case e => with_unfolding_all rfl)) | (apply h_imm 4; (case h => assumption); (case e => with_unfolding_all rfl)) | (apply h_imm 5; (case h => assumption); (case e => with_unfolding_all rfl))))
local macro_rules | `(tactic| walk_at "ims") => `(tactic| repeat (first | apply Ims.nil | (apply Ims.cons; (focus (first | apply Im.int | apply Im.str | apply Im.bl | apply Im.non | assumption | (apply h_imm 0; (case h => assumption); (case e => with_unfolding_all rfl)) | (apply h_imm 1; (case h => assumption); (case e => with_unfolding_all rfl)) | (apply h_imm 2; (case h => assumption); (case e => with_unfolding_all rfl)) | (apply h_imm 3; (case h => assumption); (case e => with_unfolding_all rfl)) | (apply h_imm 4; (case h => assumption); (case e => with_unfolding_all rfl)) | (apply h_imm 5; (case h => assumption); (case e => with_unfolding_all rfl)))))))
local macro_rules | `(tactic| walk_at "sz") => `(tactic| (rw [sizeLine_eq]; ((try simp only [List.length_append, List.length_cons, List.length_nil, List.length_map, List.length_replicate, List.length_set, List.length_take, List.length_drop]) <;> omega)))
local macro_rules | `(tactic| walk_at "fr") => `(tactic| (first | assumption | (apply Or.inl; assumption) | (apply Or.inr; simp)))
local macro_rules | `(tactic| walk_at "ds") => `(tactic| dsimp only [a_lk0, a_lk1, a_lkS, a_V, a_vl, a_c, a_op, a_un, a_test, a_toB, a_tr, a_trB, a_trI, a_trN, a_and, a_or, a_not, a_andV, a_orV, a_notV, a_ifE, a_nil, a_cons, a_lst, a_tup, a_call, a_CB, a_BM, a_BM0, a_sl, a_part, a_partI, a_noPart, a_seq, a_next, a_brk, a_cont, a_asg, a_name, a_drop, a_ret, a_retN, a_if, a_aug, a_for, a_lc, a_jR1, a_jR2, a_jL, a_jT, a_rg1, a_rg2, a_gsub, a_yes, a_addI, a_addS, a_addR, a_iaddI, a_iaddS, a_sub, a_mulI, a_mulR, a_fdiv, a_mod, a_pow, a_shl, a_shr, a_lt, a_le, a_gt, a_ge, a_neg, a_EqI, a_EqS, a_EqB, a_EqNN, a_EqIN, a_EqNI, a_EqSN, a_EqNS, a_EqRR, a_EqRN, a_EqNR, a_NeI, a_NeS, a_NeB, a_NeNN, a_NeIN, a_NeNI, a_NeSN, a_NeNS, a_NeRR, a_NeRN, a_NeNR, a_isNN, a_isNI, a_isNS, a_isNB, a_isNR, a_notNN, a_notNI, a_notNS, a_notNB, a_notNR, a_intI, a_intB, a_abs, a_gnil, a_gcons, wipe, List.set, List.nil_append, List.cons_append])
local macro_rules | `(tactic| walk_at "gs") => `(tactic| repeat (first | dsimp only [a_lk0, a_lk1, a_lkS, a_V, a_vl, a_c, a_op, a_un, a_test, a_toB, a_tr, a_trB, a_trI, a_trN, a_and, a_or, a_not, a_andV, a_orV, a_notV, a_ifE, a_nil, a_cons, a_lst, a_tup, a_call, a_CB, a_BM, a_BM0, a_sl, a_part, a_partI, a_noPart, a_seq, a_next, a_brk, a_cont, a_asg, a_name, a_drop, a_ret, a_retN, a_if, a_aug, a_for, a_lc, a_jR1, a_jR2, a_jL, a_jT, a_rg1, a_rg2, a_gsub, a_yes, a_addI, a_addS, a_addR, a_iaddI, a_iaddS, a_sub, a_mulI, a_mulR, a_fdiv, a_mod, a_pow, a_shl, a_shr, a_lt, a_le, a_gt, a_ge, a_neg, a_EqI, a_EqS, a_EqB, a_EqNN, a_EqIN, a_EqNI, a_EqSN, a_EqNS, a_EqRR, a_EqRN, a_EqNR, a_NeI, a_NeS, a_NeB, a_NeNN, a_NeIN, a_NeNI, a_NeSN, a_NeNS, a_NeRR, a_NeRN, a_NeNR, a_isNN, a_isNI, a_isNS, a_isNB, a_isNR, a_notNN, a_notNI, a_notNS, a_notNB, a_notNR, a_intI, a_intB, a_abs, a_gnil, a_gcons, wipe, List.set, List.nil_append, List.cons_append] | with_reducible (first
  | (apply h_words 2; (case h => assumption); (case e => with_unfolding_all rfl); (case e2 => with_unfolding_all rfl); (case h0 => (first | decide | omega)); (case h1 => (first | decide | omega)); (case hs => (first | assumption | (apply Or.inl; assumption) | (apply Or.inr; simp))))
  | (apply h_words 1; (case h => assumption); (case e => with_unfolding_all rfl); (case e2 => with_unfolding_all rfl); (case h0 => (first | decide | omega)); (case h1 => (first | decide | omega)); (case hs => (first | assumption | (apply Or.inl; assumption) | (apply Or.inr; simp))))
  | (apply h_words 0; (case h => assumption); (case e => with_unfolding_all rfl); (case e2 => with_unfolding_all rfl); (case h0 => (first | decide | omega)); (case h1 => (first | decide | omega)); (case hs => (first | assumption | (apply Or.inl; assumption) | (apply Or.inr; simp))))
  | (apply h_draw 0; (case h => assumption); (case e => with_unfolding_all rfl); (case e2 => with_unfolding_all rfl); (case h0 => (first | decide | omega)); (case h1 => (first | decide | omega)); (case h2 => (first | decide | omega)); (case hs => (first | assumption | (apply Or.inl; assumption) | (apply Or.inr; simp))))
  | (apply h_draw 1; (case h => assumption); (case e => with_unfolding_all rfl); (case e2 => with_unfolding_all rfl); (case h0 => (first | decide | omega)); (case h1 => (first | decide | omega)); (case h2 => (first | decide | omega)); (case hs => (first | assumption | (apply Or.inl; assumption) | (apply Or.inr; simp))))
  | (apply h_draw 2; (case h => assumption); (case e => with_unfolding_all rfl); (case e2 => with_unfolding_all rfl); (case h0 => (first | decide | omega)); (case h1 => (first | decide | omega)); (case h2 => (first | decide | omega)); (case hs => (first | assumption | (apply Or.inl; assumption) | (apply Or.inr; simp))))
  | (apply h_draw 3; (case h => assumption); (case e => with_unfolding_all rfl); (case e2 => with_unfolding_all rfl); (case h0 => (first | decide | omega)); (case h1 => (first | decide | omega)); (case h2 => (first | decide | omega)); (case hs => (first | assumption | (apply Or.inl; assumption) | (apply Or.inr; simp))))
  | (apply h_ixL 0; (case h => assumption); (case e => with_unfolding_all rfl); (case hx => with_unfolding_all rfl))
  | (apply h_ixL 1; (case h => assumption); (case e => with_unfolding_all rfl); (case hx => with_unfolding_all rfl))
  | (apply h_ixL 2; (case h => assumption); (case e => with_unfolding_all rfl); (case hx => with_unfolding_all rfl))
  | (apply h_ixL 3; (case h => assumption); (case e => with_unfolding_all rfl); (case hx => with_unfolding_all rfl))
  | (apply h_ixL 4; (case h => assumption); (case e => with_unfolding_all rfl); (case hx => with_unfolding_all rfl))
  | (apply h_ixTv; (case hd => (first | apply Im.int | apply Im.str | apply Im.bl | apply Im.non | assumption | (apply h_imm 0; (case h => assumption); (case e => with_unfolding_all rfl)) | (apply h_imm 1; (case h => assumption); (case e => with_unfolding_all rfl)) | (apply h_imm 2; (case h => assumption); (case e => with_unfolding_all rfl)) | (apply h_imm 3; (case h => assumption); (case e => with_unfolding_all rfl)) | (apply h_imm 4; (case h => assumption); (case e => with_unfolding_all rfl)) | (apply h_imm 5; (case h => assumption); (case e => with_unfolding_all rfl)))); (case h0 => (first | decide | omega)); (case hx => with_unfolding_all rfl); (case hv => with_unfolding_all rfl))
  | (apply h_slPre; (case h => assumption); (case hd => (first | apply Im.int | apply Im.str | apply Im.bl | apply Im.non | assumption | (apply h_imm 0; (case h => assumption); (case e => with_unfolding_all rfl)) | (apply h_imm 1; (case h => assumption); (case e => with_unfolding_all rfl)) | (apply h_imm 2; (case h => assumption); (case e => with_unfolding_all rfl)) | (apply h_imm 3; (case h => assumption); (case e => with_unfolding_all rfl)) | (apply h_imm 4; (case h => assumption); (case e => with_unfolding_all rfl)) | (apply h_imm 5; (case h => assumption); (case e => with_unfolding_all rfl)))); (case h0 => (first | decide | omega)))
  | (apply h_isiB)
  | (apply h_eqr)
  | (apply iteT)
  | (apply h_nT)
  | (apply h_nF)
  | (apply iteF)
  | (apply h_brT)
  | (apply h_brF)
  | (apply h_brET)
  | (apply h_brEF)
  | (apply h_append 0; (case h => assumption); (case e => with_unfolding_all rfl); (case hs => (first | assumption | (apply Or.inl; assumption) | (apply Or.inr; simp))); (case z => (rw [sizeLine_eq]; ((try simp only [List.length_append, List.length_cons, List.length_nil, List.length_map, List.length_replicate, List.length_set, List.length_take, List.length_drop]) <;> omega))))
  | (apply h_append 1; (case h => assumption); (case e => with_unfolding_all rfl); (case hs => (first | assumption | (apply Or.inl; assumption) | (apply Or.inr; simp))); (case z => (rw [sizeLine_eq]; ((try simp only [List.length_append, List.length_cons, List.length_nil, List.length_map, List.length_replicate, List.length_set, List.length_take, List.length_drop]) <;> omega))))
  | (apply h_append 2; (case h => assumption); (case e => with_unfolding_all rfl); (case hs => (first | assumption | (apply Or.inl; assumption) | (apply Or.inr; simp))); (case z => (rw [sizeLine_eq]; ((try simp only [List.length_append, List.length_cons, List.length_nil, List.length_map, List.length_replicate, List.length_set, List.length_take, List.length_drop]) <;> omega))))
  | (apply h_append 3; (case h => assumption); (case e => with_unfolding_all rfl); (case hs => (first | assumption | (apply Or.inl; assumption) | (apply Or.inr; simp))); (case z => (rw [sizeLine_eq]; ((try simp only [List.length_append, List.length_cons, List.length_nil, List.length_map, List.length_replicate, List.length_set, List.length_take, List.length_drop]) <;> omega))))
  | (apply h_append 4; (case h => assumption); (case e => with_unfolding_all rfl); (case hs => (first | assumption | (apply Or.inl; assumption) | (apply Or.inr; simp))); (case z => (rw [sizeLine_eq]; ((try simp only [List.length_append, List.length_cons, List.length_nil, List.length_map, List.length_replicate, List.length_set, List.length_take, List.length_drop]) <;> omega))))
  | (apply h_appendD 0; (case h => assumption); (case e => with_unfolding_all rfl); (case hd => (first | apply Im.int | apply Im.str | apply Im.bl | apply Im.non | assumption | (apply h_imm 0; (case h => assumption); (case e => with_unfolding_all rfl)) | (apply h_imm 1; (case h => assumption); (case e => with_unfolding_all rfl)) | (apply h_imm 2; (case h => assumption); (case e => with_unfolding_all rfl)) | (apply h_imm 3; (case h => assumption); (case e => with_unfolding_all rfl)) | (apply h_imm 4; (case h => assumption); (case e => with_unfolding_all rfl)) | (apply h_imm 5; (case h => assumption); (case e => with_unfolding_all rfl)))); (case hs => (first | assumption | (apply Or.inl; assumption) | (apply Or.inr; simp))); (case z => (rw [sizeLine_eq]; ((try simp only [List.length_append, List.length_cons, List.length_nil, List.length_map, List.length_replicate, List.length_set, List.length_take, List.length_drop]) <;> omega))))
  | (apply h_appendD 1; (case h => assumption); (case e => with_unfolding_all rfl); (case hd => (first | apply Im.int | apply Im.str | apply Im.bl | apply Im.non | assumption | (apply h_imm 0; (case h => assumption); (case e => with_unfolding_all rfl)) | (apply h_imm 1; (case h => assumption); (case e => with_unfolding_all rfl)) | (apply h_imm 2; (case h => assumption); (case e => with_unfolding_all rfl)) | (apply h_imm 3; (case h => assumption); (case e => with_unfolding_all rfl)) | (apply h_imm 4; (case h => assumption); (case e => with_unfolding_all rfl)) | (apply h_imm 5; (case h => assumption); (case e => with_unfolding_all rfl)))); (case hs => (first | assumption | (apply Or.inl; assumption) | (apply Or.inr; simp))); (case z => (rw [sizeLine_eq]; ((try simp only [List.length_append, List.length_cons, List.length_nil, List.length_map, List.length_replicate, List.length_set, List.length_take, List.length_drop]) <;> omega))))
  | (apply h_appendD 2; (case h => assumption); (case e => with_unfolding_all rfl); (case hd => (first | apply Im.int | apply Im.str | apply Im.bl | apply Im.non | assumption | (apply h_imm 0; (case h => assumption); (case e => with_unfolding_all rfl)) | (apply h_imm 1; (case h => assumption); (case e => with_unfolding_all rfl)) | (apply h_imm 2; (case h => assumption); (case e => with_unfolding_all rfl)) | (apply h_imm 3; (case h => assumption); (case e => with_unfolding_all rfl)) | (apply h_imm 4; (case h => assumption); (case e => with_unfolding_all rfl)) | (apply h_imm 5; (case h => assumption); (case e => with_unfolding_all rfl)))); (case hs => (first | assumption | (apply Or.inl; assumption) | (apply Or.inr; simp))); (case z => (rw [sizeLine_eq]; ((try simp only [List.length_append, List.length_cons, List.length_nil, List.length_map, List.length_replicate, List.length_set, List.length_take, List.length_drop]) <;> omega))))
  | (apply h_appendD 3; (case h => assumption); (case e => with_unfolding_all rfl); (case hd => (first | apply Im.int | apply Im.str | apply Im.bl | apply Im.non | assumption | (apply h_imm 0; (case h => assumption); (case e => with_unfolding_all rfl)) | (apply h_imm 1; (case h => assumption); (case e => with_unfolding_all rfl)) | (apply h_imm 2; (case h => assumption); (case e => with_unfolding_all rfl)) | (apply h_imm 3; (case h => assumption); (case e => with_unfolding_all rfl)) | (apply h_imm 4; (case h => assumption); (case e => with_unfolding_all rfl)) | (apply h_imm 5; (case h => assumption); (case e => with_unfolding_all rfl)))); (case hs => (first | assumption | (apply Or.inl; assumption) | (apply Or.inr; simp))); (case z => (rw [sizeLine_eq]; ((try simp only [List.length_append, List.length_cons, List.length_nil, List.length_map, List.length_replicate, List.length_set, List.length_take, List.length_drop]) <;> omega))))
  | (apply h_appendD 4; (case h => assumption); (case e => with_unfolding_all rfl); (case hd => (first | apply Im.int | apply Im.str | apply Im.bl | apply Im.non | assumption | (apply h_imm 0; (case h => assumption); (case e => with_unfolding_all rfl)) | (apply h_imm 1; (case h => assumption); (case e => with_unfolding_all rfl)) | (apply h_imm 2; (case h => assumption); (case e => with_unfolding_all rfl)) | (apply h_imm 3; (case h => assumption); (case e => with_unfolding_all rfl)) | (apply h_imm 4; (case h => assumption); (case e => with_unfolding_all rfl)) | (apply h_imm 5; (case h => assumption); (case e => with_unfolding_all rfl)))); (case hs => (first | assumption | (apply Or.inl; assumption) | (apply Or.inr; simp))); (case z => (rw [sizeLine_eq]; ((try simp only [List.length_append, List.length_cons, List.length_nil, List.length_map, List.length_replicate, List.length_set, List.length_take, List.length_drop]) <;> omega))))
  | (apply h_tyL 0; (case h => assumption); (case e => with_unfolding_all rfl))
  | (apply h_tyL 1; (case h => assumption); (case e => with_unfolding_all rfl))
  | (apply h_tyL 2; (case h => assumption); (case e => with_unfolding_all rfl))
  | (apply h_tyL 3; (case h => assumption); (case e => with_unfolding_all rfl))
  | (apply h_tyL 4; (case h => assumption); (case e => with_unfolding_all rfl))
  | (apply h_tyD 0; (case h => assumption); (case e => with_unfolding_all rfl))
  | (apply h_tyD 1; (case h => assumption); (case e => with_unfolding_all rfl))
  | (apply h_tyD 2; (case h => assumption); (case e => with_unfolding_all rfl))
  | (apply h_tyD 3; (case h => assumption); (case e => with_unfolding_all rfl))
  | (apply h_tyD 4; (case h => assumption); (case e => with_unfolding_all rfl))
  | (apply h_tyS)
  | (apply h_lenL 0; (case h => assumption); (case e => with_unfolding_all rfl))
  | (apply h_lenL 1; (case h => assumption); (case e => with_unfolding_all rfl))
  | (apply h_lenL 2; (case h => assumption); (case e => with_unfolding_all rfl))
  | (apply h_lenL 3; (case h => assumption); (case e => with_unfolding_all rfl))
  | (apply h_lenL 4; (case h => assumption); (case e => with_unfolding_all rfl))
  | (apply h_lenD 0; (case h => assumption); (case e => with_unfolding_all rfl))
  | (apply h_lenD 1; (case h => assumption); (case e => with_unfolding_all rfl))
  | (apply h_lenD 2; (case h => assumption); (case e => with_unfolding_all rfl))
  | (apply h_lenD 3; (case h => assumption); (case e => with_unfolding_all rfl))
  | (apply h_lenD 4; (case h => assumption); (case e => with_unfolding_all rfl))
  | (apply h_setL 0; (case h => assumption); (case e => with_unfolding_all rfl); (case hs => (first | assumption | (apply Or.inl; assumption) | (apply Or.inr; simp))); (case hi => with_unfolding_all rfl))
  | (apply h_setL 1; (case h => assumption); (case e => with_unfolding_all rfl); (case hs => (first | assumption | (apply Or.inl; assumption) | (apply Or.inr; simp))); (case hi => with_unfolding_all rfl))
  | (apply h_setL 2; (case h => assumption); (case e => with_unfolding_all rfl); (case hs => (first | assumption | (apply Or.inl; assumption) | (apply Or.inr; simp))); (case hi => with_unfolding_all rfl))
  | (apply h_setL 3; (case h => assumption); (case e => with_unfolding_all rfl); (case hs => (first | assumption | (apply Or.inl; assumption) | (apply Or.inr; simp))); (case hi => with_unfolding_all rfl))
  | (apply h_setL 4; (case h => assumption); (case e => with_unfolding_all rfl); (case hs => (first | assumption | (apply Or.inl; assumption) | (apply Or.inr; simp))); (case hi => with_unfolding_all rfl))
  | (apply h_isLn 0; (case h => assumption); (case e => with_unfolding_all rfl))
  | (apply h_isLn 1; (case h => assumption); (case e => with_unfolding_all rfl))
  | (apply h_isLn 2; (case h => assumption); (case e => with_unfolding_all rfl))
  | (apply h_isLn 3; (case h => assumption); (case e => with_unfolding_all rfl))
  | (apply h_isLn 4; (case h => assumption); (case e => with_unfolding_all rfl))
  | (apply h_isLd 0; (case h => assumption); (case e => with_unfolding_all rfl))
  | (apply h_isLd 1; (case h => assumption); (case e => with_unfolding_all rfl))
  | (apply h_isLd 2; (case h => assumption); (case e => with_unfolding_all rfl))
  | (apply h_isLd 3; (case h => assumption); (case e => with_unfolding_all rfl))
  | (apply h_isLd 4; (case h => assumption); (case e => with_unfolding_all rfl))
  | (apply h_isT; (case h => (first | apply Im.int | apply Im.str | apply Im.bl | apply Im.non | assumption | (apply h_imm 0; (case h => assumption); (case e => with_unfolding_all rfl)) | (apply h_imm 1; (case h => assumption); (case e => with_unfolding_all rfl)) | (apply h_imm 2; (case h => assumption); (case e => with_unfolding_all rfl)) | (apply h_imm 3; (case h => assumption); (case e => with_unfolding_all rfl)) | (apply h_imm 4; (case h => assumption); (case e => with_unfolding_all rfl)) | (apply h_imm 5; (case h => assumption); (case e => with_unfolding_all rfl)))))
  | (apply h_tupOf 0; (case h => assumption); (case e => with_unfolding_all rfl))
  | (apply h_tupOf 1; (case h => assumption); (case e => with_unfolding_all rfl))
  | (apply h_tupOf 2; (case h => assumption); (case e => with_unfolding_all rfl))
  | (apply h_tupOf 3; (case h => assumption); (case e => with_unfolding_all rfl))
  | (apply h_tupOf 4; (case h => assumption); (case e => with_unfolding_all rfl))
  | (apply h_listOf 0; (case h => assumption); (case e => with_unfolding_all rfl))
  | (apply h_listOf 1; (case h => assumption); (case e => with_unfolding_all rfl))
  | (apply h_listOf 2; (case h => assumption); (case e => with_unfolding_all rfl))
  | (apply h_listOf 3; (case h => assumption); (case e => with_unfolding_all rfl))
  | (apply h_listOf 4; (case h => assumption); (case e => with_unfolding_all rfl))
  | (apply h_lst; (case h => assumption); (case z => (rw [sizeLine_eq]; ((try simp only [List.length_append, List.length_cons, List.length_nil, List.length_map, List.length_replicate, List.length_set, List.length_take, List.length_drop]) <;> omega))))
  | (apply h_tup; (case h => assumption); (case z => (rw [sizeLine_eq]; ((try simp only [List.length_append, List.length_cons, List.length_nil, List.length_map, List.length_replicate, List.length_set, List.length_take, List.length_drop]) <;> omega))); (case hd => repeat (first | apply Ims.nil | (apply Ims.cons; (focus (first | apply Im.int | apply Im.str | apply Im.bl | apply Im.non | assumption | (apply h_imm 0; (case h => assumption); (case e => with_unfolding_all rfl)) | (apply h_imm 1; (case h => assumption); (case e => with_unfolding_all rfl)) | (apply h_imm 2; (case h => assumption); (case e => with_unfolding_all rfl)) | (apply h_imm 3; (case h => assumption); (case e => with_unfolding_all rfl)) | (apply h_imm 4; (case h => assumption); (case e => with_unfolding_all rfl)) | (apply h_imm 5; (case h => assumption); (case e => with_unfolding_all rfl))))))))
  | (apply And.intro; (case left => (first | decide | omega)))
  | (apply h_mr; (case h1 => (first | decide | omega)); (case h2 => (first | decide | omega)))
  | (apply h_ml; (case h1 => (first | decide | omega)); (case h2 => (first | decide | omega)))
  | (apply h_dv; (case h1 => (first | decide | omega)); (case h2 => (first | decide | omega)))
  | (apply h_pw; (case h1 => (first | decide | omega)); (case h2 => (first | decide | omega)); (case h3 => decide))
  | (apply And.intro; (case left => (rw [sizeLine_eq]; ((try simp only [List.length_append, List.length_cons, List.length_nil, List.length_map, List.length_replicate, List.length_set, List.length_take, List.length_drop]) <;> omega))))) | with_reducible intro))

def t__law_cell (K : PySem.W.Frag) (A : Ad) : TS :=
  (tSeq (mIf (mTest (tOp mLt (mV 1) (tCB (hLen K) (tCons (mV 0) tNil))))
    (tRet (tOp (rIx K) (mV 0) (mV 1)))
    tNext)
  (tRet (tC (.int 0))))
theorem rd__law_cell {K : PySem.W.Frag} {A : Ad} {vs : List V} {H : Hp} {Q : VK} {E : XK} (h : sp__law_cell K A vs H Q E) : t__law_cell K A { nx := fun _ H' => Q .non H', rt := Q } (start ["_law_script", "_law_k"] vs) H := by
  obtain ⟨a, ns, i, rfl, hS, hi, k⟩ := h
  show t__law_cell K A _ [some (.ref a), some (.int i)] H
  unfold t__law_cell
  walk_at "gs"
  refine h_lenQ hS ?_
  walk_at "gs"
  rw [List.length_map]
  refine h_br (fun hc => ?_) (fun hc => ?_)
  · walk_at "gs"
    exact h_ixQ hS (at_ints hi hc) (k _ _ (Same.refl H))
  · walk_at "gs"
    exact k _ _ (Same.refl H)
def t__law_draw (K : PySem.W.Frag) (A : Ad) : TS :=
  (tSeq (tAsg (tOp (rIx K) (mV 0) (tC (.int 1))) (gName 2))
  (tSeq (tAsg (tOp (mAdd K) (mV 2) (tC (.int 1))) (gSub (mV 0) (tC (.int 1)) rSetL))
  (tSeq (mIf (mTest (tOp mLt (mV 2) (tCB (hLen K) (tCons (tOp (rIx K) (mV 0) (tC (.int 0))) tNil))))
    (tRet (tOp mMod (tCB mInt (tCons (tOp (rIx K) (tOp (rIx K) (mV 0) (tC (.int 0))) (mV 2)) tNil)) (mV 1)))
    tNext)
  (tRet (tOp mMod (tCB mInt (tCons (tOp (mAdd K) (tOp mMul (mV 2) (tC (.int 7))) (tC (.int 3))) tNil)) (mV 1))))))
theorem rd__law_draw {K : PySem.W.Frag} {A : Ad} {vs : List V} {H : Hp} {Q : VK} {E : XK} (h : sp__law_draw K A vs H Q E) : t__law_draw K A { nx := fun _ H' => Q .non H', rt := Q } (start ["_law_box", "_law_many", "_law_at"] vs) H := by
  obtain ⟨b, g, ds, i, m, rfl, hb, hg, hbg, hi, hi2, hm, k⟩ := h
  show t__law_draw K A _ [some (.ref b), some (.int m), none] H
  unfold t__law_draw
  have hL : Led K H [b] H [(b, .raw (.lst [.ref g, .int i])), (g, .raw (.lst (ds.map V.int)))] [] := Led.mk2 hb hg hbg
  walk_at "gs"
  rename_i H1 h1
  rw [List.length_map]
  have fin : ∀ z, Q (.int (z % m)) H1 := fun z => k _ H1 (Int.emod_nonneg _ (by omega)) (Int.emod_lt_of_pos _ hm) h1.kp (h1.raw 0 rfl)
  refine h_br (fun hc => ?_) (fun hc => ?_)
  · walk_at "gs"
    refine h_ixL (n := 1) h1 rfl (at_ints hi hc) ?_
    walk_at "gs"
    exact fin _
  · walk_at "gs"
    exact fin _
def t__law_digits (K : PySem.W.Frag) (A : Ad) : TS :=
  (tSeq (tAsg (tLst tNil) (gName 3))
  (tSeq (tFor (jR2 (tCons (mV 1) (tCons (mV 2) tNil))) (gName 4)
    (tSeq (tAsg (tCall (sp__law_cell K A) [] E0 (tCons (mV 0) (tCons (mV 4) tNil))) (gName 5))
  (mCut (mIf (mTest (tOp mLt (mV 5) (tC (.int 0))))
    (tAsg (tOp mSub (tC (.int 1)) (tOp mMul (tC (.int 2)) (mV 5))) (gName 5))
    tNext)
  (mIf (mTest (tOp mGe (mV 5) (tOp mPow (tC (.int 10)) (tC (.int 18)))))
    (tFor (jR1 (tCons (tC (.int 60)) tNil)) (gName 6)
    (mIf (mTest (tOp mGt (mV 5) (tC (.int 0))))
    (tSeq (tDrop (tBM K "list" rAppend (mV 3) (tCons (tOp mMod (tCB mInt (tCons (mV 5) tNil)) (tC (.int 1000))) tNil)))
  (tAsg (tOp mFdiv (mV 5) (tC (.int 1000))) (gName 5)))
    tNext))
    (tSeq (tAsg (tOp mMod (tCB mInt (tCons (tOp (mAdd K) (tOp (mAdd K) (tOp mMul (mV 5) (tC (.int 48271))) (tOp mMul (mV 4) (tC (.int 69621)))) (tC (.int 11))) tNil)) (tC (.int 2147483647))) (gName 7))
  (tFor (jR1 (tCons (tC (.int 12)) tNil)) (gName 6)
    (tSeq (tAsg (tOp mMod (tCB mInt (tCons (tOp (mAdd K) (tOp (mAdd K) (tOp mMul (mV 7) (tC (.int 16807))) (tOp mMul (tC (.int 7)) (mV 6))) (tC (.int 1))) tNil)) (tC (.int 2147483647))) (gName 7))
  (tDrop (tBM K "list" rAppend (mV 3) (tCons (tOp mMod (tCB mInt (tCons (tOp mFdiv (mV 7) (tC (.int 997))) tNil)) (tC (.int 1000))) tNil))))))))))
  (tRet (mV 3))))
theorem rd__law_digits {K : PySem.W.Frag} {A : Ad} {vs : List V} {H : Hp} {Q : VK} {E : XK} (h : sp__law_digits K A vs H Q E) :
    t__law_digits K A { nx := fun _ H' => Q .non H', rt := Q } (start ["_law_script", "_law_first", "_law_last", "_law_digits_here", "_law_k", "_law_cell_here", "_law_turn", "_law_seed"] vs) H := by
  obtain ⟨a, ns, f, l, rfl, hS, hf, hf2, hl, hl2, k⟩ := h
  show t__law_digits K A _ [some (.ref a), some (.int f), some (.int l), none, none, none, none, none] H
  unfold t__law_digits
  have hL : Led K H [] H [] [] := Led.start
  walk_at "gs"
  rename_i p H1 np h1
  have np : H p = none := np.elim id fun z => nomatch z
  refine lpR (fun i σ H2 => ∃ (ds : List Int) (y4 y5 y6 y7 : Option V), σ = [some (.ref a), some (.int f), some (.int l), some (.ref p), y4, y5, y6, y7] ∧ ds.length ≤ 60 * i ∧ Led K H [] H2 [(p, .raw (.lst (ds.map V.int)))] [])
    ⟨[], none, none, none, none, rfl, Nat.le_refl _, h1⟩ ?_ ?_
  · rintro i σ H2 hi ⟨ds, y4, y5, y6, y7, rfl, hz, h2⟩
    walk_at "gs"
    refine ⟨a, ns, f + i, rfl, Same.seq (KBs.same h2.kp) hS, by omega, fun z H3 s3 => ?_⟩
    have h3 := h2.same s3
    walk_at "gs"
    refine h_cut (fun σ H4 => ∃ z : Int, σ = [some (.ref a), some (.int f), some (.int l), some (.ref p), some (.int (f + i)), some (.int z), y6, y7] ∧ Led K H [] H4 [(p, .raw (.lst (ds.map V.int)))] []) ?_ ?_
    · walk_at "gs"
      refine h_br (fun hc => ?_) (fun hc => ?_)
      · walk_at "gs"
        exact ⟨_, rfl, h3⟩
      · walk_at "gs"
        exact ⟨_, rfl, h3⟩
    · rintro σ H4 ⟨z, rfl, h4⟩
      walk_at "gs"
      refine h_br (fun hc => ?_) (fun hc => ?_)
      · walk_at "gs"
        refine lpR (fun j σ H5 => ∃ (ds : List Int) (z : Int) (y6 : Option V), σ = [some (.ref a), some (.int f), some (.int l), some (.ref p), some (.int (f + i)), some (.int z), y6, y7] ∧ ds.length ≤ 60 * i + j ∧ Led K H [] H5 [(p, .raw (.lst (ds.map V.int)))] [])
          ⟨ds, z, y6, rfl, hz, h4⟩ ?_ ?_
        · rintro j σ H5 hj ⟨ds, z, y6, rfl, hz, h5⟩
          walk_at "gs"
          refine h_br (fun hc => ?_) (fun hc => ?_)
          · walk_at "gs"
            rename_i H6 h6
            rw [map_snoc] at h6
            exact ⟨_, _, _, rfl, by rw [List.length_append]; show ds.length + 1 ≤ _; omega, h6⟩
          · walk_at "gs"
            exact ⟨ds, z, _, rfl, by omega, h5⟩
        · rintro σ H5 ⟨ds, z, y6, rfl, hz, h5⟩
          walk_at "gs"
          exact ⟨ds, _, _, _, _, rfl, by simp at hz; omega, h5⟩
      · walk_at "gs"
        refine lpR (fun j σ H5 => ∃ (ds : List Int) (w : Int) (y6 : Option V), σ = [some (.ref a), some (.int f), some (.int l), some (.ref p), some (.int (f + i)), some (.int z), y6, some (.int w)] ∧ (0 ≤ w ∧ w < 2147483647) ∧ ds.length ≤ 60 * i + j ∧ Led K H [] H5 [(p, .raw (.lst (ds.map V.int)))] [])
          ⟨ds, _, y6, rfl, ⟨Int.emod_nonneg _ (by decide), Int.emod_lt_of_pos _ (by decide)⟩, hz, h4⟩ ?_ ?_
        · rintro j σ H5 hj ⟨ds, w, y6, rfl, ⟨hw, hw2⟩, hz, h5⟩
          walk_at "gs"
          rename_i H6 h6
          rw [map_snoc] at h6
          exact ⟨_, _, _, rfl, ⟨Int.emod_nonneg _ (by decide), Int.emod_lt_of_pos _ (by decide)⟩, by rw [List.length_append]; show ds.length + 1 ≤ _; omega, h6⟩
        · rintro σ H5 ⟨ds, w, y6, rfl, hw, hz, h5⟩
          walk_at "gs"
          exact ⟨ds, _, _, _, _, rfl, by simp at hz; omega, h5⟩
  · rintro σ H2 ⟨ds, y4, y5, y6, y7, rfl, hz, h2⟩
    walk_at "gs"
    exact k p H2 ds (KBs.same h2.kp) np (h2.raw 0 rfl)

def t__law_words (K : PySem.W.Frag) (A : Ad) : TS :=
  (tSeq (tAsg (tLst tNil) (gName 1))
  (tSeq (tFor (jR1 (tCons (tCall (sp__law_draw K A) [] E0 (tCons (mV 0) (tCons (tC (.int 5)) tNil))) tNil)) (gName 2)
    (tSeq (tAsg (tTup (tCons (tOp (rIx K) (tLst (tCons (tC (.str "")) (tCons (tC (.str "l")) (tCons (tC (.str "j")) tNil)))) (tCall (sp__law_draw K A) [] E0 (tCons (mV 0) (tCons (tC (.int 3)) tNil)))) (tCons (tOp mMul (tC (.int 4)) (tCall (sp__law_draw K A) [] E0 (tCons (mV 0) (tCons (tC (.int 4)) tNil)))) (tCons (tC (.int 4)) (tCons (tOp (mEq K) (tCall (sp__law_draw K A) [] E0 (tCons (mV 0) (tCons (tC (.int 2)) tNil))) (tC (.int 0))) tNil))))) (gName 3))
  (mIf (mTest (tOp (uNin K) (tSl (uSl K) (mV 3) tNoPart (mPart (tC (.int 2)))) (tLc (jL K (mV 1)) (gName 4) tYes (tSl (uSl K) (mV 4) tNoPart (mPart (tC (.int 2)))) [4])))
    (tDrop (tBM K "list" rAppend (mV 1) (tCons (mV 3) tNil)))
    tNext)))
  (tRet (tCB (hTupOf K) (tCons (mV 1) tNil)))))
theorem rd__law_words {K : PySem.W.Frag} {A : Ad} {vs : List V} {H : Hp} {Q : VK} {E : XK} (h : sp__law_words K A vs H Q E) :
    t__law_words K A { nx := fun _ H' => Q .non H', rt := Q } (start ["_law_box", "_law_words_here", "_law_k", "_law_row", "_law_word"] vs) H := by
  obtain ⟨b, g, ds, i, rfl, hb, hg, hbg, hi, hi2, k⟩ := h
  show t__law_words K A _ [some (.ref b), none, none, none, none] H
  unfold t__law_words
  have hL : Led K H [b] H [(b, .raw (.lst [.ref g, .int i])), (g, .raw (.lst (ds.map V.int)))] [] := Led.mk2 hb hg hbg
  walk_at "gs"
  rename_i p H1 np h1 m H2 hm0 hm1 h2
  have h3 := h2.toD 0 rfl Ims.nil
  clear h1 h2
  refine lpR (fun t σ H3 => ∃ (j : Int) (ws : List Wd) (y2 y3 y4 : Option V), σ = [some (.ref b), some (.ref p), y2, y3, y4] ∧ (i ≤ j ∧ j ≤ i + 1 + 4 * t) ∧ ws.length ≤ t ∧ (∀ w ∈ ws, PyData.strOk w.1 = true) ∧
      Led K H [b] H3 [(p, .dl (ws.map wd)), (b, .raw (.lst [.ref g, .int j])), (g, .raw (.lst (ds.map V.int)))] [])
    ⟨_, [], _, _, _, rfl, by omega, Nat.le_refl _, fun w h => (nomatch h), h3⟩ ?_ ?_
  · rintro t σ H3 ht ⟨j, ws, y2, y3, y4, rfl, hj, hz, ok, h3⟩
    walk_at "gs"
    rename_i q1 H4 nq h4 z H5 hz0 hz1 h5
    obtain ⟨s, hs, _, hat⟩ := at_map (f := V.str) (l := ["", "l", "j"]) hz0 (show z < ((3 : Nat) : Int) from hz1)
    have oks : PyData.strOk s = true := by
      simp only [List.mem_cons, List.not_mem_nil, or_false] at hs
      rcases hs with rfl | rfl | rfl <;> decide +kernel
    refine h_ixL (n := 0) h5 rfl hat ?_
    walk_at "gs"
    rename_i z1 H6 hz2 hz3 h6 z2 H7 hz4 hz5 h7 q2 H8 h8 q3 H9 h9
    refine lcLD h9 (fun r l H10 => Led K H [b] H10 [(r, .dl ((ws.take l).map w2)), (q1, .raw (.lst [.str "", .str "l", .str "j"])), (p, .dl (ws.map wd)), (b, .raw (.lst [.ref g, .int (j + 1 + 1 + 1)])), (g, .raw (.lst (ds.map V.int)))]
        [(.ref q3, w2 (s, 4 * z1, 4, decide (z2 = 0))), (.ref q2, wd (s, 4 * z1, 4, decide (z2 = 0)))] ∧ (H r = none ∨ r ∈ [b]))
      (fun r H10 nr h10 => ⟨h10.toD 0 rfl Ims.nil, nr⟩) (fun r l H10 _ h10 => h10.1.at_ 2 _ _ rfl) ?_ ?_
    · rintro r l x d H10 hd1 hx ⟨h10, nr⟩
      obtain ⟨w, hw, rfl⟩ := map_get hd1
      obtain ⟨a, rfl⟩ := hx.isRef
      have h11 := h10.imNew hx
      walk_at "gs"
      rename_i q4 H12 h12
      obtain ⟨acc, a1, a2, a3⟩ := h_accD 0 h12 rfl (h12.im 0 _ _ rfl) (by walk_at "fr") (by walk_at "sz")
      refine ⟨acc, a1, a2, ?_, nr⟩
      have a4 := a3.tl.tl
      rw [show PyData.tuple (List.take (Int.toNat 2) [PyData.str w.1, PyData.int w.2.1, PyData.int w.2.2.1, PyData.bool w.2.2.2]) = w2 w from rfl, map_take hw w2] at a4
      exact a4
    · rintro r H10 ⟨h10, nr⟩
      rw [List.length_map, List.take_of_length_le (Nat.le_refl _)] at h10
      have ok2 : ∀ d ∈ ws.map w2, lay 1 d := fun d hd => by
        obtain ⟨w, hw, rfl⟩ := List.mem_map.mp hd
        exact lay_w2 (ok w hw)
      refine h_ninD 0 h10 rfl (h10.im 0 _ _ rfl) (lay_w2 oks).shaped (lay_list ok2).shaped ?_
      walk_at "gs"
      refine h_brb (fun hc => ?_) (fun hc => ?_)
      · walk_at "gs"
        rename_i H12 h12
        refine ⟨j + 1 + 1 + 1, ws ++ [(s, 4 * z1, 4, decide (z2 = 0))], _, _, _, rfl, by omega, by rw [List.length_append]; show ws.length + 1 ≤ _; omega, fun w hw => ?_, ?_⟩
        · rcases List.mem_append.mp hw with hw | hw
          · exact ok w hw
          · cases List.mem_singleton.mp hw
            exact oks
        · have h13 := h12.tlL.tlL.noI
          rw [← snoc_map]
          exact h13
      · walk_at "gs"
        exact ⟨j + 1 + 1 + 1, ws, _, _, _, rfl, by omega, by omega, ok, h10.tlL.tlL.noI⟩
  · rintro σ H3 ⟨j, ws, y2, y3, y4, rfl, hj, hz, ok, h3⟩
    walk_at "gs"
    rename_i q H4 h4
    exact k q H4 j ws (by omega) (by omega) h4.kp (h4.raw 1 rfl) ok (by omega) (h4.im 0 _ _ rfl)

def t_conflicts (K : PySem.W.Frag) (A : Ad) : TS :=
  (tSeq (tFor (jL K (mV 2)) (gTup K 2 (mGc (gName 3) (mGc (gName 4) mGn)))
    (mIf (mTest (tOp (mEq K) (mV 3) (mV 0)))
    (tFor (jT K (mV 1)) (gName 5)
    (tFor (jT K (mV 4)) (gName 6)
    (mIf (tAnd (mTest (tOp (mEq K) (tSl (uSl K) (mV 5) tNoPart (mPart (tC (.int 2)))) (tSl (uSl K) (mV 6) tNoPart (mPart (tC (.int 2)))))) (tOr (mTr K (tOp (rIx K) (mV 5) (tC (.int 3)))) (mTr K (tOp (rIx K) (mV 6) (tC (.int 3))))))
    (tRet (tC (.bl true)))
    tNext)))
    tNext))
  (tRet (tC (.bl false))))
theorem rd_conflicts {K : PySem.W.Frag} {A : Ad} {vs : List V} {H : Hp} {Q : VK} {E : XK} (h : sp_conflicts K A vs H Q E) :
    t_conflicts K A { nx := fun _ H' => Q .non H', rt := Q } (start ["number", "words", "held", "other", "others", "word", "also"] vs) H := by
  obtain ⟨n, t, h, ws, hs, rfl, hw, hh, ok1, ok2, k⟩ := h
  show t_conflicts K A _ [some (.int n), some (.ref t), some (.ref h), none, none, none, none] H
  unfold t_conflicts
  have hL : Led K H [] H [(h, .dl (hs.map hd))] [(.ref t, .tuple (ws.map wd))] := (Led.mk1 hh).imNew hw
  walk_at "gs"
  refine lpLD (fun i σ H1 => ∃ y3 y4 y5 y6 : Option V, σ = [some (.int n), some (.ref t), some (.ref h), y3, y4, y5, y6] ∧ confl n ws (hs.take i) = false ∧ Led K H [] H1 [(h, .dl (hs.map hd))] [(.ref t, .tuple (ws.map wd))])
    ⟨_, _, _, _, rfl, rfl, hL⟩ (fun i σ H1 _ ⟨_, _, _, _, _, _, h1⟩ => h1.at_ 0 _ _ rfl) ?_ ?_
  · rintro i x d σ H1 hd1 hx ⟨y3, y4, y5, y6, rfl, hc, h1⟩
    obtain ⟨⟨m, os⟩, hm, rfl⟩ := map_get hd1
    obtain ⟨a, rfl⟩ := hx.isRef
    refine h_gtup2 hx fun v1 v2 hv1 hv2 => ?_
    obtain rfl := hv1.vOf _ rfl
    obtain ⟨b, rfl⟩ := hv2.isRef
    walk_at "gs"
    refine h_br (fun he => ?_) (fun he => ?_)
    · have h2 := h1.imNew hv2
      walk_at "gs"
      refine lpTI (fun j σ H2 => ∃ y5 y6 : Option V, σ = [some (.int n), some (.ref t), some (.ref h), some (.int m), some (.ref b), y5, y6] ∧ (ws.take j).any (fun w => os.any fun o => cw w o) = false ∧
          Led K H [] H2 [(h, .dl (hs.map hd))] [(.ref b, .tuple (os.map wd)), (.ref t, .tuple (ws.map wd))])
        ⟨_, _, rfl, rfl, h2⟩ (fun j σ H2 _ ⟨_, _, _, _, h2⟩ => h2.im 1 _ _ rfl) ?_ ?_
      · rintro j x d σ H2 hd2 hx2 ⟨y5, y6, rfl, hc2, h2⟩
        obtain ⟨w, hw2, rfl⟩ := map_get hd2
        obtain ⟨c, rfl⟩ := hx2.isRef
        have h3 := h2.imNew hx2
        walk_at "gs"
        refine lpTI (fun l σ H3 => ∃ y6 : Option V, σ = [some (.int n), some (.ref t), some (.ref h), some (.int m), some (.ref b), some (.ref c), y6] ∧ (os.take l).any (fun o => cw w o) = false ∧
            Led K H [] H3 [(h, .dl (hs.map hd))] [(.ref c, wd w), (.ref b, .tuple (os.map wd)), (.ref t, .tuple (ws.map wd))])
          ⟨_, rfl, rfl, h3⟩ (fun l σ H3 _ ⟨_, _, _, h3⟩ => h3.im 1 _ _ rfl) ?_ ?_
        · rintro l x d σ H3 hd3 hx3 ⟨y6, rfl, hc3, h3⟩
          obtain ⟨o, ho, rfl⟩ := map_get hd3
          obtain ⟨e, rfl⟩ := hx3.isRef
          have h4 := h3.imNew hx3
          walk_at "gs"
          rename_i p1 H4 h5 p2 H5 h6
          refine h_eqI (h6.im 1 _ _ rfl) (h6.im 0 _ _ rfl) ?_ ?_ ?_
          · simp [SeqAt.shaped, PyData.canLay0, PyData.canLayAll0, PyData.depth, PyData.depthAll, ok1 w (List.mem_of_getElem? hw2)]
          · simp [SeqAt.shaped, PyData.canLay0, PyData.canLayAll0, PyData.depth, PyData.depthAll, ok2 _ (List.mem_of_getElem? hm) o (List.mem_of_getElem? ho)]
          walk_at "ds"
          have e0 : PyData.eqv (.tuple (List.take (Int.toNat 2) [PyData.str w.1, PyData.int w.2.1, PyData.int w.2.2.1, PyData.bool w.2.2.2])) (.tuple (List.take (Int.toNat 2) [PyData.str o.1, PyData.int o.2.1, PyData.int o.2.2.1, PyData.bool o.2.2.2])) = (decide (w.1 = o.1) && decide (w.2.1 = o.2.1)) := eqv_si _ _ _ _
          rw [e0]
          have yes : cw w o = true → Q (.bl true) H5 := fun hq => by
            have q : confl n ws hs = true := any_of hm (by rw [decide_eq_true (show m = n from he), Bool.true_and]; exact any_of hw2 (any_of ho hq))
            have k2 := k H5 (KBs.same h6.kp)
            rw [q] at k2
            exact k2
          have no : cw w o = false → ((os.take (l + 1)).any fun o => cw w o) = false := fun hq => by rw [any_take ho, hc3, hq]; rfl
          refine h_itb (fun hb => ?_) (fun hb => ?_)
          · walk_at "gs"
            refine h_itb (fun hq => ?_) (fun hq => ?_)
            · walk_at "gs"
              exact yes (by unfold cw; rw [hb, hq]; rfl)
            · walk_at "gs"
              refine h_brb (fun hr => ?_) (fun hr => ?_)
              · walk_at "gs"
                exact yes (by unfold cw; rw [hb, hr, Bool.or_true]; rfl)
              · walk_at "gs"
                exact ⟨_, rfl, no (by unfold cw; rw [hq, hr]; simp), h6.tl.tl.tl⟩
          · walk_at "gs"
            exact ⟨_, rfl, no (by unfold cw; rw [hb]; rfl), h6.tl.tl.tl⟩
        · rintro σ H3 ⟨y6, rfl, hc3, h3⟩
          walk_at "gs"
          rw [List.length_map, List.take_of_length_le (Nat.le_refl _)] at hc3
          exact ⟨_, _, rfl, by rw [any_take hw2, hc2, hc3]; rfl, h3.tl⟩
      · rintro σ H2 ⟨y5, y6, rfl, hc2, h2⟩
        walk_at "gs"
        rw [List.length_map, List.take_of_length_le (Nat.le_refl _)] at hc2
        exact ⟨_, _, _, _, rfl, by show (hs.take (i + 1)).any _ = false; rw [any_take hm, hc2, Bool.and_false, Bool.or_false]; exact hc, h2.tl⟩
    · walk_at "gs"
      refine ⟨_, _, _, _, rfl, ?_, h1⟩
      show (hs.take (i + 1)).any _ = false
      rw [any_take hm, decide_eq_false (show ¬ m = n from he), Bool.false_and, Bool.or_false]
      exact hc
  · rintro σ H1 ⟨y3, y4, y5, y6, rfl, hc, h1⟩
    walk_at "gs"
    rw [List.length_map, List.take_of_length_le (Nat.le_refl _)] at hc
    rw [← hc]
    exact k _ (KBs.same h1.kp)

def t_law (K : PySem.W.Frag) (A : Ad) : TS :=
  (tSeq (tAsg (tLst (tCons (tCall (sp__law_digits K A) [] E0 (tCons (mV 0) (tCons (tC (.int 0)) (tCons (tC (.int 40)) tNil)))) (tCons (tC (.int 0)) tNil))) (gName 1))
  (tSeq (tFor (jR1 (tCons (tC (.int 8)) tNil)) (gName 2)
    (tSeq (tAsg (tOp (mAdd K) (tC (.int 1)) (tCall (sp__law_draw K A) [] E0 (tCons (mV 1) (tCons (tC (.int 3)) tNil)))) (gName 3))
  (tSeq (tAsg (tCall (sp__law_words K A) [] E0 (tCons (mV 1) tNil)) (gName 4))
  (tSeq (tAsg (tLc (jR1 (tCons (tCall (sp__law_draw K A) [] E0 (tCons (mV 1) (tCons (tC (.int 5)) tNil))) tNil)) (gName 12) tYes (tTup (tCons (tOp (mAdd K) (tC (.int 1)) (tCall (sp__law_draw K A) [] E0 (tCons (mV 1) (tCons (tC (.int 3)) tNil)))) (tCons (tCall (sp__law_words K A) [] E0 (tCons (mV 1) tNil)) tNil))) [12]) (gName 5))
  (tSeq (tAsg (tC (.bl false)) (gName 6))
  (tSeq (tFor (jL K (mV 5)) (gTup K 2 (mGc (gName 7) (mGc (gName 8) mGn)))
    (tFor (jT K (mV 8)) (gName 9)
    (tFor (jT K (mV 4)) (gName 10)
    (tAsg (mOrV (mV 6) (mAndV (tOp (mEq K) (mV 7) (mV 3)) (mAndV (tOp (mEq K) (tSl (uSl K) (mV 9) tNoPart (mPart (tC (.int 2)))) (tSl (uSl K) (mV 10) tNoPart (mPart (tC (.int 2))))) (mOrV (tOp (rIx K) (mV 9) (tC (.int 3))) (tOp (rIx K) (mV 10) (tC (.int 3))))))) (gName 6)))))
  (tSeq (tAsg (tCall (sp_conflicts K A) [] E0 (tCons (mV 3) (tCons (mV 4) (tCons (mV 5) tNil)))) (gName 11))
  (mIf (tOr (tNot (mTr K (tCB (rIsi K) (tCons (mV 11) (tCons (tC (.ty "bool")) tNil))))) (mTest (tOp (mNe K) (mV 11) (mV 6))))
    (tRet (tC (.bl false)))
    tNext))))))))
  (tRet (tC (.bl true)))))
theorem rd_law {K : PySem.W.Frag} {A : Ad} {vs : List V} {H : Hp} {Q : VK} {E : XK} (h : sp_law K A vs H Q E) :
    t_law K A { nx := fun _ H' => Q .non H', rt := Q } (start ["_law_script", "_law_box", "_law_turn", "_law_number", "_law_words_here", "_law_held", "_law_due", "_law_other", "_law_rows", "_law_row", "_law_word", "_law_told", "_law_k"] vs) H := by
  obtain ⟨a, ns, rfl, hS, k⟩ := h
  show t_law K A _ [some (.ref a), none, none, none, none, none, none, none, none, none, none, none, none] H
  unfold t_law
  have hL : Led K H [] H [] [] := Led.start
  walk_at "gs"
  refine ⟨a, ns, 0, 40, rfl, hS, by omega, by omega, by omega, by omega, fun g H1 ds s1 ng hg => ?_⟩
  have h1 : Led K H [] H1 [(g, .raw (.lst (ds.map V.int)))] [] := hL.new s1 ng hg
  walk_at "gs"
  rename_i b H2 nb h2
  refine lpR (fun t σ H3 => ∃ (j : Int) (y2 y3 y4 y5 y6 y7 y8 y9 y10 y11 y12 : Option V), σ = [some (.ref a), some (.ref b), y2, y3, y4, y5, y6, y7, y8, y9, y10, y11, y12] ∧ (0 ≤ j ∧ j ≤ 1000 * t) ∧
      Led K H [] H3 [(b, .raw (.lst [.ref g, .int j])), (g, .raw (.lst (ds.map V.int)))] [])
    ⟨0, _, _, _, _, _, _, _, _, _, _, _, rfl, by omega, h2⟩ ?_ ?_
  · rintro t σ H3 ht ⟨j, y2, y3, y4, y5, y6, y7, y8, y9, y10, y11, y12, rfl, hj, h3⟩
    have ht8 : t < 8 := ht
    walk_at "gs"
    rename_i z1 H4 hz1 hz2 h4 p H5 j5 ws hj1 hj2 ok hwz h5 z2 H6 hz3 hz4 h6
    refine lcR h6 (fun r l H7 => ∃ (j7 : Int) (hs : List Hd), (j5 + 1 ≤ j7 ∧ j7 ≤ j5 + 1 + 101 * l) ∧ hs.length = l ∧ (∀ h ∈ hs, ∀ w ∈ h.2, PyData.strOk w.1 = true) ∧ (H r = none ∨ r ∈ []) ∧
        Led K H [] H7 [(r, .dl (hs.map hd)), (b, .raw (.lst [.ref g, .int j7])), (g, .raw (.lst (ds.map V.int)))] [(.ref p, .tuple (ws.map wd))])
      (fun r H7 nr h7 => ⟨_, [], by omega, rfl, fun h hh => (nomatch hh), nr, h7.toD 0 rfl Ims.nil⟩) ?_ ?_
    · rintro r l H7 hl ⟨j7, hs, hj7, hhs, okh, nr, h7⟩
      walk_at "gs"
      rename_i z3 H8 hz5 hz6 h8 q H9 j9 us hj3 hj4 oku huz h9 q2 H10 h10
      obtain ⟨acc, a1, a2, a3⟩ := h_accD 0 h10 rfl (h10.im 0 _ _ rfl) (by walk_at "fr") (by walk_at "sz")
      refine ⟨acc, a1, a2, j9, hs ++ [(1 + z3, us)], by omega, by rw [List.length_append, hhs]; rfl, fun h hh => ?_, nr, ?_⟩
      · rcases List.mem_append.mp hh with hh | hh
        · exact okh h hh
        · cases List.mem_singleton.mp hh
          exact oku
      · have a4 := a3.tl.tl
        rw [← snoc_map]
        exact a4
    · rintro r H7 ⟨j7, hs, hj7, hhs, okh, nr, h7⟩
      walk_at "gs"
      refine lpLD (fun i σ H8 => ∃ y7 y8 y9 y10 : Option V, σ = [some (.ref a), some (.ref b), some (.int (0 + t)), some (.int (1 + z1)), some (.ref p), some (.ref r), some (.bl (due (1 + z1) ws (hs.take i))), y7, y8, y9, y10, y11, y12] ∧
          Led K H [] H8 [(r, .dl (hs.map hd)), (b, .raw (.lst [.ref g, .int j7])), (g, .raw (.lst (ds.map V.int)))] [(.ref p, .tuple (ws.map wd))])
        ⟨_, _, _, _, rfl, h7⟩ (fun i σ H8 _ ⟨_, _, _, _, _, h8⟩ => h8.at_ 0 _ _ rfl) ?_ ?_
      · rintro i x d σ H8 hd1 hx ⟨y7, y8, y9, y10, rfl, h8⟩
        obtain ⟨⟨m, os⟩, hm, rfl⟩ := map_get hd1
        obtain ⟨c, rfl⟩ := hx.isRef
        refine h_gtup2 hx fun v1 v2 hv1 hv2 => ?_
        obtain rfl := hv1.vOf _ rfl
        obtain ⟨e, rfl⟩ := hv2.isRef
        have h9 := h8.imNew hv2
        clear h8
        walk_at "gs"
        refine lpTI (fun l σ H9 => ∃ y9 y10 : Option V, σ = [some (.ref a), some (.ref b), some (.int (0 + t)), some (.int (1 + z1)), some (.ref p), some (.ref r), some (.bl (due (1 + z1) ws (hs.take i) || (os.take l).any fun o => ws.any fun w => ff (1 + z1) (m, os) o w)), some (.int m), some (.ref e), y9, y10, y11, y12] ∧
            Led K H [] H9 [(r, .dl (hs.map hd)), (b, .raw (.lst [.ref g, .int j7])), (g, .raw (.lst (ds.map V.int)))] [(.ref e, .tuple (os.map wd)), (.ref p, .tuple (ws.map wd))])
          ⟨y9, y10, by rw [List.take_zero, List.any_nil, Bool.or_false], h9⟩ (fun l σ H9 _ ⟨_, _, _, h9⟩ => h9.im 0 _ _ rfl) ?_ ?_
        · rintro l x d σ H9 hd2 hx2 ⟨y9, y10, rfl, h9⟩
          obtain ⟨o, ho, rfl⟩ := map_get hd2
          obtain ⟨f, rfl⟩ := hx2.isRef
          have h10 := h9.imNew hx2
          clear h9
          walk_at "gs"
          refine lpTI (fun u σ H10 => ∃ y10 : Option V, σ = [some (.ref a), some (.ref b), some (.int (0 + t)), some (.int (1 + z1)), some (.ref p), some (.ref r), some (.bl ((due (1 + z1) ws (hs.take i) || (os.take l).any fun o => ws.any fun w => ff (1 + z1) (m, os) o w) || (ws.take u).any fun w => ff (1 + z1) (m, os) o w)), some (.int m), some (.ref e), some (.ref f), y10, y11, y12] ∧
              Led K H [] H10 [(r, .dl (hs.map hd)), (b, .raw (.lst [.ref g, .int j7])), (g, .raw (.lst (ds.map V.int)))] [(.ref f, wd o), (.ref e, .tuple (os.map wd)), (.ref p, .tuple (ws.map wd))])
            ⟨y10, by rw [List.take_zero, List.any_nil, Bool.or_false], h10⟩ (fun l σ H9 _ ⟨_, _, h9⟩ => h9.im 2 _ _ rfl) ?_ ?_
          · rintro u x d σ H10 hd3 hx3 ⟨y10, rfl, h10⟩
            obtain ⟨w, hw, rfl⟩ := map_get hd3
            obtain ⟨v, rfl⟩ := hx3.isRef
            have h11 := h10.imNew hx3
            clear h10
            generalize hD : ((due (1 + z1) ws (hs.take i) || (os.take l).any fun o => ws.any fun w => ff (1 + z1) (m, os) o w) || (ws.take u).any fun w => ff (1 + z1) (m, os) o w) = B
            have next : ((due (1 + z1) ws (hs.take i) || (os.take l).any fun o => ws.any fun w => ff (1 + z1) (m, os) o w) || (ws.take (u + 1)).any fun w => ff (1 + z1) (m, os) o w) = (B || ff (1 + z1) (m, os) o w) := by
              rw [any_take hw, ← Bool.or_assoc, hD]
            walk_at "gs"
            rw [next]
            refine h_itb (fun hb => ?_) (fun hb => ?_)
            · exact ⟨_, by rw [hb, Bool.true_or], h11.tl⟩
            · refine h_ite (fun he => ?_) (fun he => ?_)
              · walk_at "gs"
                rename_i p1 H12 h12 p2 H13 h13
                refine h_eqI (h13.im 1 _ _ rfl) (h13.im 0 _ _ rfl) (lay_w2 (okh _ (List.mem_of_getElem? hm) o (List.mem_of_getElem? ho))).shaped (lay_w2 (ok w (List.mem_of_getElem? hw))).shaped ?_
                walk_at "ds"
                have e0 : PyData.eqv (.tuple (List.take (Int.toNat 2) [PyData.str o.1, PyData.int o.2.1, PyData.int o.2.2.1, PyData.bool o.2.2.2])) (.tuple (List.take (Int.toNat 2) [PyData.str w.1, PyData.int w.2.1, PyData.int w.2.2.1, PyData.bool w.2.2.2])) = (decide (o.1 = w.1) && decide (o.2.1 = w.2.1)) := eqv_si _ _ _ _
                rw [e0]
                refine h_itb (fun hq => ?_) (fun hq => ?_)
                · walk_at "gs"
                  refine h_itb (fun hr => ?_) (fun hr => ?_)
                  · exact ⟨some (.ref v), by unfold ff; rw [hb, hq, hr, decide_eq_true (show m = 1 + z1 from he)]; rfl, h13.tl.tl.tl⟩
                  · walk_at "gs"
                    exact ⟨some (.ref v), by unfold ff; rw [hb, hq, hr, decide_eq_true (show m = 1 + z1 from he)]; simp, h13.tl.tl.tl⟩
                · walk_at "gs"
                  exact ⟨some (.ref v), by unfold ff; rw [hb, hq]; simp, h13.tl.tl.tl⟩
              · exact ⟨some (.ref v), by unfold ff; rw [hb, decide_eq_false (show ¬ m = 1 + z1 from he)]; rfl, h11.tl⟩
          · rintro σ H10 ⟨y10, rfl, h10⟩
            rw [List.length_map, List.take_of_length_le (Nat.le_refl _)]
            walk_at "gs"
            exact ⟨some (.ref f), y10, by rw [any_take ho, Bool.or_assoc], h10.tl⟩
        · rintro σ H9 ⟨y9, y10, rfl, h9⟩
          rw [List.length_map, List.take_of_length_le (Nat.le_refl _)]
          walk_at "gs"
          refine ⟨some (.int m), some (.ref e), y9, y10, ?_, h9.tl⟩
          have q : due (1 + z1) ws (hs.take (i + 1)) = (due (1 + z1) ws (hs.take i) || os.any fun o => ws.any fun w => ff (1 + z1) (m, os) o w) := any_take hm _
          rw [q]
      · rintro σ H8 ⟨y7, y8, y9, y10, rfl, h8⟩
        rw [List.length_map, List.take_of_length_le (Nat.le_refl _)]
        walk_at "gs"
        refine ⟨_, p, r, ws, hs, rfl, h8.im 0 _ _ rfl, h8.at_ 0 _ _ rfl, ok, okh, fun H9 s9 => ?_⟩
        have h9 := h8.same s9
        rw [due_eq]
        walk_at "gs"
        refine h_brn (fun hc => absurd rfl hc) (fun _ => ?_)
        walk_at "gs"
        exact ⟨_, _, _, _, _, _, _, _, _, _, _, _, rfl, by omega, h9.tlL.noI⟩
  · rintro σ H3 ⟨j, y2, y3, y4, y5, y6, y7, y8, y9, y10, y11, y12, rfl, hj, h3⟩
    walk_at "gs"
    exact k H3

def topS (i : Nat) : Stmt := PySem.Challenge.pw_recstore_k24_conflicts_met.main.body.getD i (.Pass ⟨0, 0, 0, 0⟩)
abbrev s_conflicts : Stmt := topS 1
abbrev nm_conflicts : List Str := ["number", "words", "held", "other", "others", "word", "also"]
theorem sc_conflicts : FnScope nm_conflicts ["number", "words", "held"] (defScope s_conflicts) := ⟨rfl, rfl, rfl, by decide +kernel, rfl, by decide +kernel, by decide +kernel⟩
abbrev s__law_cell : Stmt := topS 3
abbrev nm__law_cell : List Str := ["_law_script", "_law_k"]
theorem sc__law_cell : FnScope nm__law_cell ["_law_script", "_law_k"] (defScope s__law_cell) := ⟨rfl, rfl, rfl, by decide +kernel, rfl, by decide +kernel, by decide +kernel⟩
abbrev s__law_digits : Stmt := topS 4
abbrev nm__law_digits : List Str := ["_law_script", "_law_first", "_law_last", "_law_digits_here", "_law_k", "_law_cell_here", "_law_turn", "_law_seed"]
theorem sc__law_digits : FnScope nm__law_digits ["_law_script", "_law_first", "_law_last"] (defScope s__law_digits) := ⟨rfl, rfl, rfl, by decide +kernel, rfl, by decide +kernel, by decide +kernel⟩
abbrev s__law_draw : Stmt := topS 5
abbrev nm__law_draw : List Str := ["_law_box", "_law_many", "_law_at"]
theorem sc__law_draw : FnScope nm__law_draw ["_law_box", "_law_many"] (defScope s__law_draw) := ⟨rfl, rfl, rfl, by decide +kernel, rfl, by decide +kernel, by decide +kernel⟩
abbrev s__law_words : Stmt := topS 6
abbrev nm__law_words : List Str := ["_law_box", "_law_words_here", "_law_k", "_law_row", "_law_word"]
theorem sc__law_words : FnScope nm__law_words ["_law_box"] (defScope s__law_words) := ⟨rfl, rfl, rfl, by decide +kernel, rfl, by decide +kernel, by decide +kernel⟩
abbrev s_law : Stmt := topS 7
abbrev nm_law : List Str := ["_law_script", "_law_box", "_law_turn", "_law_number", "_law_words_here", "_law_held", "_law_due", "_law_other", "_law_rows", "_law_row", "_law_word", "_law_told", "_law_k"]
theorem sc_law : FnScope nm_law ["_law_script"] (defScope s_law) := ⟨rfl, rfl, rfl, by decide +kernel, rfl, by decide +kernel, by decide +kernel⟩
/-- where the defs stand -/
structure Tops where
  a_conflicts : Addr
  d_conflicts : FuncData
  a__law_cell : Addr
  d__law_cell : FuncData
  a__law_digits : Addr
  d__law_digits : FuncData
  a__law_draw : Addr
  d__law_draw : FuncData
  a__law_words : Addr
  d__law_words : FuncData
  a_law : Addr
  d_law : FuncData
structure Top (K : PySem.W.Frag) (mg : Str → Option Value) (A : Ad) (W : Tops) : Prop where
  F_conflicts : Fun K "conflicts" "conflicts" s_conflicts W.a_conflicts W.d_conflicts
  b_conflicts : Binds K W.d_conflicts ["number", "words", "held"] []
  m_conflicts : mg "conflicts" = some (.ref W.a_conflicts)
  F__law_cell : Fun K "_law_cell" "_law_cell" s__law_cell W.a__law_cell W.d__law_cell
  b__law_cell : Binds K W.d__law_cell ["_law_script", "_law_k"] []
  m__law_cell : mg "_law_cell" = some (.ref W.a__law_cell)
  F__law_digits : Fun K "_law_digits" "_law_digits" s__law_digits W.a__law_digits W.d__law_digits
  b__law_digits : Binds K W.d__law_digits ["_law_script", "_law_first", "_law_last"] []
  m__law_digits : mg "_law_digits" = some (.ref W.a__law_digits)
  F__law_draw : Fun K "_law_draw" "_law_draw" s__law_draw W.a__law_draw W.d__law_draw
  b__law_draw : Binds K W.d__law_draw ["_law_box", "_law_many"] []
  m__law_draw : mg "_law_draw" = some (.ref W.a__law_draw)
  F__law_words : Fun K "_law_words" "_law_words" s__law_words W.a__law_words W.d__law_words
  b__law_words : Binds K W.d__law_words ["_law_box"] []
  m__law_words : mg "_law_words" = some (.ref W.a__law_words)
  F_law : Fun K "law" "law" s_law W.a_law W.d_law
  b_law : Binds K W.d_law ["_law_script"] []
  m_law : mg "law" = some (.ref W.a_law)
  n_bool : mg "bool" = none
  n_int : mg "int" = none
  n_isinstance : mg "isinstance" = none
  n_len : mg "len" = none
  n_range : mg "range" = none
  n_tuple : mg "tuple" = none
section
variable {P : Program} {w : World} {K : PySem.W.Frag} {mg : Str → Option Value} {base : Heap} {A : Ad} {W : Tops}
theorem ok_conflicts (T : Top K mg A W) : FnOk P w K mg base CX0 1 W.a_conflicts W.d_conflicts ["number", "words", "held"] (sp_conflicts K A) := by
  refine T.F_conflicts.ok sc_conflicts (fun vs H Q E h => by first | (obtain ⟨rfl, _⟩ := h; rfl) | (obtain ⟨_, rfl, _⟩ := h; rfl) | (obtain ⟨_, _, rfl, _⟩ := h; rfl) | (obtain ⟨_, _, _, rfl, _⟩ := h; rfl) | (obtain ⟨_, _, _, _, rfl, _⟩ := h; rfl) | (obtain ⟨_, _, _, _, _, rfl, _⟩ := h; rfl) | (obtain ⟨_, _, _, _, _, _, rfl, _⟩ := h; rfl) | (obtain ⟨_, _, _, _, _, _, _, rfl, _⟩ := h; rfl) | (obtain ⟨_, _, _, _, _, _, _, _, rfl, _⟩ := h; rfl) | (obtain ⟨_, _, _, _, _, _, _, _, _, rfl, _⟩ := h; rfl) | (obtain ⟨_, _, _, _, _, _, _, _, _, _, rfl, _⟩ := h; rfl) | (obtain ⟨_, _, _, _, _, _, _, _, _, _, _, rfl, _⟩ := h; rfl) | (obtain ⟨_, _, _, _, _, _, _, _, _, _, _, _, rfl, _⟩ := h; rfl) | (obtain ⟨_, _, _, _, _, _, _, _, _, _, _, _, _, rfl, _⟩ := h; rfl) | (obtain ⟨_, _, _, _, _, _, _, _, _, _, _, _, _, _, rfl, _⟩ := h; rfl) | (obtain ⟨_, _, _, _, _, _, _, _, _, _, _, _, _, _, _, rfl, _⟩ := h; rfl)) (fun cdv A' outer s H vs Q E hr h => ⟨t_conflicts K A, ?_, rd_conflicts h⟩)
  unfold t_conflicts
  exact (pss_cons (ps_for PassesOwn.never rfl (i_list (pi_list (pn 2))) (pg_tup rfl (p_gcons (pg_name (i := 3) sc_conflicts.nd rfl (Or.inl rfl)) (p_gcons (pg_name (i := 4) sc_conflicts.nd rfl (Or.inl rfl)) p_gnil)))
    (pss_one (p_if (m_test (pt_cmpR (o_eq hr.units) (pn 3) (pn 0) (nomark _)))
    (pss_one (ps_for PassesOwn.never rfl (i_tup (pi_tup (pn 1))) (pg_name (i := 5) sc_conflicts.nd rfl (Or.inl rfl))
    (pss_one (ps_for PassesOwn.never rfl (i_tup (pi_tup (pn 4))) (pg_name (i := 6) sc_conflicts.nd rfl (Or.inl rfl))
    (pss_one (p_if (PW.pt (pw_and (m_test (pt_cmpR (o_eq hr.units) (pe_slice o_sl (pn 5) po_none (p_some pe_int)) (pe_slice o_sl (pn 6) po_none (p_some pe_int)) (nomark _))) (pw_and1 (PW.pt (pw_or (p_truth (pe_ix ix_seq (pn 5) pe_int (fun _ _ => rfl)) (by intro _; rfl)) (pw_or1 (p_truth (pe_ix ix_seq (pn 6) pe_int (fun _ _ => rfl)) (by intro _; rfl))))))))
    (pss_one (ps_ret pe_bl))
    pss_nil))))))
    pss_nil)))
  (pss_one (ps_ret pe_bl)))
theorem ok__law_cell (T : Top K mg A W) : FnOk P w K mg base CX0 1 W.a__law_cell W.d__law_cell ["_law_script", "_law_k"] (sp__law_cell K A) := by
  refine T.F__law_cell.ok sc__law_cell (fun vs H Q E h => by first | (obtain ⟨rfl, _⟩ := h; rfl) | (obtain ⟨_, rfl, _⟩ := h; rfl) | (obtain ⟨_, _, rfl, _⟩ := h; rfl) | (obtain ⟨_, _, _, rfl, _⟩ := h; rfl) | (obtain ⟨_, _, _, _, rfl, _⟩ := h; rfl) | (obtain ⟨_, _, _, _, _, rfl, _⟩ := h; rfl) | (obtain ⟨_, _, _, _, _, _, rfl, _⟩ := h; rfl) | (obtain ⟨_, _, _, _, _, _, _, rfl, _⟩ := h; rfl) | (obtain ⟨_, _, _, _, _, _, _, _, rfl, _⟩ := h; rfl) | (obtain ⟨_, _, _, _, _, _, _, _, _, rfl, _⟩ := h; rfl) | (obtain ⟨_, _, _, _, _, _, _, _, _, _, rfl, _⟩ := h; rfl) | (obtain ⟨_, _, _, _, _, _, _, _, _, _, _, rfl, _⟩ := h; rfl) | (obtain ⟨_, _, _, _, _, _, _, _, _, _, _, _, rfl, _⟩ := h; rfl) | (obtain ⟨_, _, _, _, _, _, _, _, _, _, _, _, _, rfl, _⟩ := h; rfl) | (obtain ⟨_, _, _, _, _, _, _, _, _, _, _, _, _, _, rfl, _⟩ := h; rfl) | (obtain ⟨_, _, _, _, _, _, _, _, _, _, _, _, _, _, _, rfl, _⟩ := h; rfl)) (fun cdv A' outer s H vs Q E hr h => ⟨t__law_cell K A, ?_, rd__law_cell h⟩)
  unfold t__law_cell
  exact (pss_cons (p_if (m_test (pt_cmpR o_lt (pn 1) (pe_callB c_len (by rfl) T.n_len (by decide +kernel) (pa_cons (pn 0) pa_nil)) (nomark _)))
    (pss_one (ps_ret (pe_ix ix_seq (pn 0) (pn 1) (fun _ _ => rfl))))
    pss_nil)
  (pss_one (ps_ret pe_int)))
theorem ok__law_digits (T : Top K mg A W) : FnOk P w K mg base CX0 2 W.a__law_digits W.d__law_digits ["_law_script", "_law_first", "_law_last"] (sp__law_digits K A) := by
  refine T.F__law_digits.ok sc__law_digits (fun vs H Q E h => by first | (obtain ⟨rfl, _⟩ := h; rfl) | (obtain ⟨_, rfl, _⟩ := h; rfl) | (obtain ⟨_, _, rfl, _⟩ := h; rfl) | (obtain ⟨_, _, _, rfl, _⟩ := h; rfl) | (obtain ⟨_, _, _, _, rfl, _⟩ := h; rfl) | (obtain ⟨_, _, _, _, _, rfl, _⟩ := h; rfl) | (obtain ⟨_, _, _, _, _, _, rfl, _⟩ := h; rfl) | (obtain ⟨_, _, _, _, _, _, _, rfl, _⟩ := h; rfl) | (obtain ⟨_, _, _, _, _, _, _, _, rfl, _⟩ := h; rfl) | (obtain ⟨_, _, _, _, _, _, _, _, _, rfl, _⟩ := h; rfl) | (obtain ⟨_, _, _, _, _, _, _, _, _, _, rfl, _⟩ := h; rfl) | (obtain ⟨_, _, _, _, _, _, _, _, _, _, _, rfl, _⟩ := h; rfl) | (obtain ⟨_, _, _, _, _, _, _, _, _, _, _, _, rfl, _⟩ := h; rfl) | (obtain ⟨_, _, _, _, _, _, _, _, _, _, _, _, _, rfl, _⟩ := h; rfl) | (obtain ⟨_, _, _, _, _, _, _, _, _, _, _, _, _, _, rfl, _⟩ := h; rfl) | (obtain ⟨_, _, _, _, _, _, _, _, _, _, _, _, _, _, _, rfl, _⟩ := h; rfl)) (fun cdv A' outer s H vs Q E hr h => ⟨t__law_digits K A, ?_, rd__law_digits h⟩)
  unfold t__law_digits
  exact (pss_cons (ps_set (i := 3) sc__law_digits.nd rfl (Or.inl rfl) (pe_lst pa_nil))
  (pss_cons (ps_for PassesOwn.never rfl (i_rng2 (pi_range2 (by rfl) T.n_range (pa_cons (pn 1) (pa_cons (pn 2) pa_nil)))) (pg_name (i := 4) sc__law_digits.nd rfl (Or.inl rfl))
    (pss_cons (ps_set (i := 5) sc__law_digits.nd rfl (Or.inl rfl) (pe_call (ok__law_cell T) (hr.mono (by decide)) (by rfl) T.m__law_cell T.F__law_cell.kp T.b__law_cell .nil pass0 (pa_cons (pn 0) (pa_cons (pn 4) pa_nil))))
  (p_cut (p_if (m_test (pt_cmpR o_lt (pn 5) pe_int (nomark _)))
    (pss_one (ps_set (i := 5) sc__law_digits.nd rfl (Or.inl rfl) (pe_op o_sub pe_int (pe_op o_mul pe_int (pn 5)))))
    pss_nil)
  (pss_one (p_if (m_test (pt_cmpR o_ge (pn 5) (pe_op o_pow pe_int pe_int) (nomark _)))
    (pss_one (ps_for PassesOwn.never rfl (i_rng1 (pi_range1 (by rfl) T.n_range (pa_cons pe_int pa_nil))) (pg_name (i := 6) sc__law_digits.nd rfl (Or.inl rfl))
    (pss_one (p_if (m_test (pt_cmpR o_gt (pn 5) pe_int (nomark _)))
    (pss_cons (ps_expr (pe_bm PySem.F.plainAttrs_list PySem.F.slot_list_append PySem.F.type_list_append mt_append (pn 3) (pa_cons (pe_op o_mod (pe_callTy c_int (by rfl) T.n_int (by decide +kernel) (pa_cons (pn 5) pa_nil)) pe_int) pa_nil)))
  (pss_one (ps_set (i := 5) sc__law_digits.nd rfl (Or.inl rfl) (pe_op o_fdiv (pn 5) pe_int))))
    pss_nil))))
    (pss_cons (ps_set (i := 7) sc__law_digits.nd rfl (Or.inl rfl) (pe_op o_mod (pe_callTy c_int (by rfl) T.n_int (by decide +kernel) (pa_cons (pe_op o_add (pe_op o_add (pe_op o_mul (pn 5) pe_int) (pe_op o_mul (pn 4) pe_int)) pe_int) pa_nil)) pe_int))
  (pss_one (ps_for PassesOwn.never rfl (i_rng1 (pi_range1 (by rfl) T.n_range (pa_cons pe_int pa_nil))) (pg_name (i := 6) sc__law_digits.nd rfl (Or.inl rfl))
    (pss_cons (ps_set (i := 7) sc__law_digits.nd rfl (Or.inl rfl) (pe_op o_mod (pe_callTy c_int (by rfl) T.n_int (by decide +kernel) (pa_cons (pe_op o_add (pe_op o_add (pe_op o_mul (pn 7) pe_int) (pe_op o_mul pe_int (pn 6))) pe_int) pa_nil)) pe_int))
  (pss_one (ps_expr (pe_bm PySem.F.plainAttrs_list PySem.F.slot_list_append PySem.F.type_list_append mt_append (pn 3) (pa_cons (pe_op o_mod (pe_callTy c_int (by rfl) T.n_int (by decide +kernel) (pa_cons (pe_op o_fdiv (pn 7) pe_int) pa_nil)) pe_int) pa_nil)))))))))))))
  (pss_one (ps_ret (pn 3)))))
theorem ok__law_draw (T : Top K mg A W) : FnOk P w K mg base CX0 1 W.a__law_draw W.d__law_draw ["_law_box", "_law_many"] (sp__law_draw K A) := by
  refine T.F__law_draw.ok sc__law_draw (fun vs H Q E h => by first | (obtain ⟨rfl, _⟩ := h; rfl) | (obtain ⟨_, rfl, _⟩ := h; rfl) | (obtain ⟨_, _, rfl, _⟩ := h; rfl) | (obtain ⟨_, _, _, rfl, _⟩ := h; rfl) | (obtain ⟨_, _, _, _, rfl, _⟩ := h; rfl) | (obtain ⟨_, _, _, _, _, rfl, _⟩ := h; rfl) | (obtain ⟨_, _, _, _, _, _, rfl, _⟩ := h; rfl) | (obtain ⟨_, _, _, _, _, _, _, rfl, _⟩ := h; rfl) | (obtain ⟨_, _, _, _, _, _, _, _, rfl, _⟩ := h; rfl) | (obtain ⟨_, _, _, _, _, _, _, _, _, rfl, _⟩ := h; rfl) | (obtain ⟨_, _, _, _, _, _, _, _, _, _, rfl, _⟩ := h; rfl) | (obtain ⟨_, _, _, _, _, _, _, _, _, _, _, rfl, _⟩ := h; rfl) | (obtain ⟨_, _, _, _, _, _, _, _, _, _, _, _, rfl, _⟩ := h; rfl) | (obtain ⟨_, _, _, _, _, _, _, _, _, _, _, _, _, rfl, _⟩ := h; rfl) | (obtain ⟨_, _, _, _, _, _, _, _, _, _, _, _, _, _, rfl, _⟩ := h; rfl) | (obtain ⟨_, _, _, _, _, _, _, _, _, _, _, _, _, _, _, rfl, _⟩ := h; rfl)) (fun cdv A' outer s H vs Q E hr h => ⟨t__law_draw K A, ?_, rd__law_draw h⟩)
  unfold t__law_draw
  exact (pss_cons (ps_set (i := 2) sc__law_draw.nd rfl (Or.inl rfl) (pe_ix ix_seq (pn 0) pe_int (fun _ _ => rfl)))
  (pss_cons (ps_asg (pe_op o_add (pn 2) pe_int) (pg_sub (pn 0) pe_int set_list))
  (pss_cons (p_if (m_test (pt_cmpR o_lt (pn 2) (pe_callB c_len (by rfl) T.n_len (by decide +kernel) (pa_cons (pe_ix ix_seq (pn 0) pe_int (fun _ _ => rfl)) pa_nil)) (nomark _)))
    (pss_one (ps_ret (pe_op o_mod (pe_callTy c_int (by rfl) T.n_int (by decide +kernel) (pa_cons (pe_ix ix_seq (pe_ix ix_seq (pn 0) pe_int (fun _ _ => rfl)) (pn 2) (fun _ _ => rfl)) pa_nil)) (pn 1))))
    pss_nil)
  (pss_one (ps_ret (pe_op o_mod (pe_callTy c_int (by rfl) T.n_int (by decide +kernel) (pa_cons (pe_op o_add (pe_op o_mul (pn 2) pe_int) pe_int) pa_nil)) (pn 1)))))))
theorem ok__law_words (T : Top K mg A W) : FnOk P w K mg base CX0 2 W.a__law_words W.d__law_words ["_law_box"] (sp__law_words K A) := by
  refine T.F__law_words.ok sc__law_words (fun vs H Q E h => by first | (obtain ⟨rfl, _⟩ := h; rfl) | (obtain ⟨_, rfl, _⟩ := h; rfl) | (obtain ⟨_, _, rfl, _⟩ := h; rfl) | (obtain ⟨_, _, _, rfl, _⟩ := h; rfl) | (obtain ⟨_, _, _, _, rfl, _⟩ := h; rfl) | (obtain ⟨_, _, _, _, _, rfl, _⟩ := h; rfl) | (obtain ⟨_, _, _, _, _, _, rfl, _⟩ := h; rfl) | (obtain ⟨_, _, _, _, _, _, _, rfl, _⟩ := h; rfl) | (obtain ⟨_, _, _, _, _, _, _, _, rfl, _⟩ := h; rfl) | (obtain ⟨_, _, _, _, _, _, _, _, _, rfl, _⟩ := h; rfl) | (obtain ⟨_, _, _, _, _, _, _, _, _, _, rfl, _⟩ := h; rfl) | (obtain ⟨_, _, _, _, _, _, _, _, _, _, _, rfl, _⟩ := h; rfl) | (obtain ⟨_, _, _, _, _, _, _, _, _, _, _, _, rfl, _⟩ := h; rfl) | (obtain ⟨_, _, _, _, _, _, _, _, _, _, _, _, _, rfl, _⟩ := h; rfl) | (obtain ⟨_, _, _, _, _, _, _, _, _, _, _, _, _, _, rfl, _⟩ := h; rfl) | (obtain ⟨_, _, _, _, _, _, _, _, _, _, _, _, _, _, _, rfl, _⟩ := h; rfl)) (fun cdv A' outer s H vs Q E hr h => ⟨t__law_words K A, ?_, rd__law_words h⟩)
  unfold t__law_words
  exact (pss_cons (ps_set (i := 1) sc__law_words.nd rfl (Or.inl rfl) (pe_lst pa_nil))
  (pss_cons (ps_for PassesOwn.never rfl (i_rng1 (pi_range1 (by rfl) T.n_range (pa_cons (pe_call (ok__law_draw T) (hr.mono (by decide)) (by rfl) T.m__law_draw T.F__law_draw.kp T.b__law_draw .nil pass0 (pa_cons (pn 0) (pa_cons pe_int pa_nil))) pa_nil))) (pg_name (i := 2) sc__law_words.nd rfl (Or.inl rfl))
    (pss_cons (ps_set (i := 3) sc__law_words.nd rfl (Or.inl rfl) (pe_tup (pa_cons (pe_ix ix_seq (pe_lst (pa_cons pe_str (pa_cons pe_str (pa_cons pe_str pa_nil)))) (pe_call (ok__law_draw T) (hr.mono (by decide)) (by rfl) T.m__law_draw T.F__law_draw.kp T.b__law_draw .nil pass0 (pa_cons (pn 0) (pa_cons pe_int pa_nil))) (fun _ _ => rfl)) (pa_cons (pe_op o_mul pe_int (pe_call (ok__law_draw T) (hr.mono (by decide)) (by rfl) T.m__law_draw T.F__law_draw.kp T.b__law_draw .nil pass0 (pa_cons (pn 0) (pa_cons pe_int pa_nil)))) (pa_cons pe_int (pa_cons (pe_cmpR (o_eq hr.units) (pe_call (ok__law_draw T) (hr.mono (by decide)) (by rfl) T.m__law_draw T.F__law_draw.kp T.b__law_draw .nil pass0 (pa_cons (pn 0) (pa_cons pe_int pa_nil))) pe_int (nomark _)) pa_nil))))))
  (pss_one (p_if (m_test (pt_cmpR (o_nin (u65 hr)) (pe_slice o_sl (pn 3) po_none (p_some pe_int)) (pe_lc (own := [("_law_word", 4)]) (g := (gName 4)) (tt := tYes) rfl sc__law_words.nd (i_list (pi_list (pn 1))) (blkOk_by (own := [("_law_word", 4)]) (N := nm__law_words) (sc := defScope s__law_words) (by decide +kernel)) (fun _ _ _ _ _ => (pg_name (i := 4) sc__law_words.nd rfl (Or.inl rfl))) (fun _ _ _ _ _ => pts_nil) (fun _ _ _ _ _ => (pe_slice o_sl (pn 4) po_none (p_some pe_int)))) rfl))
    (pss_one (ps_expr (pe_bm PySem.F.plainAttrs_list PySem.F.slot_list_append PySem.F.type_list_append mt_append (pn 1) (pa_cons (pn 3) pa_nil))))
    pss_nil))))
  (pss_one (ps_ret (pe_callTy c_tuple (by rfl) T.n_tuple (by decide +kernel) (pa_cons (pn 1) pa_nil))))))
theorem ok_law (T : Top K mg A W) : FnG P w K mg base 3 W.a_law W.d_law ["_law_script"] (sp_law K A) := by
  refine okG T.F_law sc_law (fun vs H Q E h => by first | (obtain ⟨rfl, _⟩ := h; rfl) | (obtain ⟨_, rfl, _⟩ := h; rfl) | (obtain ⟨_, _, rfl, _⟩ := h; rfl) | (obtain ⟨_, _, _, rfl, _⟩ := h; rfl) | (obtain ⟨_, _, _, _, rfl, _⟩ := h; rfl) | (obtain ⟨_, _, _, _, _, rfl, _⟩ := h; rfl) | (obtain ⟨_, _, _, _, _, _, rfl, _⟩ := h; rfl) | (obtain ⟨_, _, _, _, _, _, _, rfl, _⟩ := h; rfl) | (obtain ⟨_, _, _, _, _, _, _, _, rfl, _⟩ := h; rfl) | (obtain ⟨_, _, _, _, _, _, _, _, _, rfl, _⟩ := h; rfl) | (obtain ⟨_, _, _, _, _, _, _, _, _, _, rfl, _⟩ := h; rfl) | (obtain ⟨_, _, _, _, _, _, _, _, _, _, _, rfl, _⟩ := h; rfl) | (obtain ⟨_, _, _, _, _, _, _, _, _, _, _, _, rfl, _⟩ := h; rfl) | (obtain ⟨_, _, _, _, _, _, _, _, _, _, _, _, _, rfl, _⟩ := h; rfl) | (obtain ⟨_, _, _, _, _, _, _, _, _, _, _, _, _, _, rfl, _⟩ := h; rfl) | (obtain ⟨_, _, _, _, _, _, _, _, _, _, _, _, _, _, _, rfl, _⟩ := h; rfl)) (fun cdv A' outer s H vs Q E hr hg h => ⟨t_law K A, ?_, rd_law h⟩)
  unfold t_law
  exact (pss_cons (ps_set (i := 1) sc_law.nd rfl (Or.inr rfl) (pe_lst (pa_cons (pe_call (ok__law_digits T) (hr.mono (by decide)) (by rfl) T.m__law_digits T.F__law_digits.kp T.b__law_digits .nil pass0 (pa_cons (pn 0) (pa_cons pe_int (pa_cons pe_int pa_nil)))) (pa_cons pe_int pa_nil))))
  (pss_cons (ps_for PassesOwn.never rfl (i_rng1 (pi_range1 (by rfl) T.n_range (pa_cons pe_int pa_nil))) (pg_name (i := 2) sc_law.nd rfl (Or.inl rfl))
    (pss_cons (ps_set (i := 3) sc_law.nd rfl (Or.inl rfl) (pe_op o_add pe_int (pe_call (ok__law_draw T) (hr.mono (by decide)) (by rfl) T.m__law_draw T.F__law_draw.kp T.b__law_draw .nil pass0 (pa_cons (pn 1) (pa_cons pe_int pa_nil)))))
  (pss_cons (ps_set (i := 4) sc_law.nd rfl (Or.inl rfl) (pe_call (ok__law_words T) (hr.mono (by decide)) (by rfl) T.m__law_words T.F__law_words.kp T.b__law_words .nil pass0 (pa_cons (pn 1) pa_nil)))
  (pss_cons (ps_setLc (i := 5) (own := [("_law_k", 12)]) (g := (gName 12)) (tt := tYes) rfl sc_law.nd rfl rfl (sw_true rfl rfl rfl (by decide +kernel)) (i_rng1 (pi_range1 (by rfl) T.n_range (pa_cons (pe_call (ok__law_draw T) (hr.mono (by decide)) (by rfl) T.m__law_draw T.F__law_draw.kp T.b__law_draw .nil pass0 (pa_cons (pn 1) (pa_cons pe_int pa_nil))) pa_nil))) (blkOk_by (own := [("_law_k", 12)]) (N := nm_law) (sc := defScope s_law) (by decide +kernel)) (fun _ _ _ _ _ => (pg_name (i := 12) sc_law.nd rfl (Or.inl rfl))) (fun _ _ _ _ _ => pts_nil) (fun _ _ _ _ _ => (pe_tup (pa_cons (pe_op o_add pe_int (pe_call (ok__law_draw T) (hr.mono (by decide)) (by rfl) T.m__law_draw T.F__law_draw.kp T.b__law_draw .nil pass0 (pa_cons (pn 1) (pa_cons pe_int pa_nil)))) (pa_cons (pe_call (ok__law_words T) (hr.mono (by decide)) (by rfl) T.m__law_words T.F__law_words.kp T.b__law_words .nil pass0 (pa_cons (pn 1) pa_nil)) pa_nil)))))
  (pss_cons (ps_set (i := 6) sc_law.nd rfl (Or.inl rfl) pe_bl)
  (pss_cons (ps_for PassesOwn.never rfl (i_list (pi_list (pn 5))) (pg_tup rfl (p_gcons (pg_name (i := 7) sc_law.nd rfl (Or.inl rfl)) (p_gcons (pg_name (i := 8) sc_law.nd rfl (Or.inl rfl)) p_gnil)))
    (pss_one (ps_for PassesOwn.never rfl (i_tup (pi_tup (pn 8))) (pg_name (i := 9) sc_law.nd rfl (Or.inl rfl))
    (pss_one (ps_for PassesOwn.never rfl (i_tup (pi_tup (pn 4))) (pg_name (i := 10) sc_law.nd rfl (Or.inl rfl))
    (pss_one (ps_set (i := 6) sc_law.nd rfl (Or.inl rfl) (p_or (op := .Or) (pn 6) (pe_one (p_and (pe_cmpR (o_eq hr.units) (pn 7) (pn 3) (nomark _)) (p_and (pe_cmpR (o_eq hr.units) (pe_slice o_sl (pn 9) po_none (p_some pe_int)) (pe_slice o_sl (pn 10) po_none (p_some pe_int)) (nomark _)) (pe_one (p_or (op := .Or) (pe_ix ix_seq (pn 9) pe_int (fun _ _ => rfl)) (pe_one (pe_ix ix_seq (pn 10) pe_int (fun _ _ => rfl))))))))))))))))
  (pss_cons (ps_set (i := 11) sc_law.nd rfl (Or.inl rfl) (pe_call (ok_conflicts T) (hr.mono (by decide)) (by rfl) T.m_conflicts T.F_conflicts.kp T.b_conflicts .nil pass0 (pa_cons (pn 3) (pa_cons (pn 4) (pa_cons (pn 5) pa_nil)))))
  (pss_one (p_if (PW.pt (pw_or (pt_not (p_truth (pe_callB c_isi (by rfl) T.n_isinstance (by decide +kernel) (pa_cons (pn 11) (pa_cons (pe_bltn (by rfl) T.n_bool (by decide +kernel) rfl) pa_nil))) (by intro _; rfl))) (pw_or1 (m_test (pt_cmpR (o_ne hr.units) (pn 11) (pn 6) (nomark _))))))
    (pss_one (ps_ret pe_bl))
    pss_nil)))))))))
  (pss_one (ps_ret pe_bl))))
end
theorem all_mk {l : PySem.W.OpenLaw} {w : World} {K : PySem.W.Frag} {h : Heap} {mg : Str → Option Value} {fa : Addr} {A : Ad} (X : K.In h) (G : h.Ns mainGlobals mg) (hfa : mg "law" = some (.ref fa))
    {f0 : Addr} {od0 an0 : Option Addr} {sl0 : Array (Option Value)} {oc0 kV0 dc0 pm0 cd0 ct0 : Value}
    (a0 : PySem.W.nsIn K mainGlobals "conflicts" = some (some (.ref f0))) (l0 : K.lookup f0 = some ⟨oc0, od0, .func (PySem.W.fnOf "conflicts" "conflicts" (defArgs s_conflicts) (defBody s_conflicts) (defScope s_conflicts) .none kV0 dc0 pm0 an0 cd0 ct0), sl0⟩) (c0 : PySem.W.codeIn K cd0 "conflicts" = true) (k0 : PySem.W.keepIn K (.ref f0) = true)
    {f1 : Addr} {od1 an1 : Option Addr} {sl1 : Array (Option Value)} {oc1 kV1 dc1 pm1 cd1 ct1 : Value}
    (a1 : PySem.W.nsIn K mainGlobals "_law_cell" = some (some (.ref f1))) (l1 : K.lookup f1 = some ⟨oc1, od1, .func (PySem.W.fnOf "_law_cell" "_law_cell" (defArgs s__law_cell) (defBody s__law_cell) (defScope s__law_cell) .none kV1 dc1 pm1 an1 cd1 ct1), sl1⟩) (c1 : PySem.W.codeIn K cd1 "_law_cell" = true) (k1 : PySem.W.keepIn K (.ref f1) = true)
    {f2 : Addr} {od2 an2 : Option Addr} {sl2 : Array (Option Value)} {oc2 kV2 dc2 pm2 cd2 ct2 : Value}
    (a2 : PySem.W.nsIn K mainGlobals "_law_digits" = some (some (.ref f2))) (l2 : K.lookup f2 = some ⟨oc2, od2, .func (PySem.W.fnOf "_law_digits" "_law_digits" (defArgs s__law_digits) (defBody s__law_digits) (defScope s__law_digits) .none kV2 dc2 pm2 an2 cd2 ct2), sl2⟩) (c2 : PySem.W.codeIn K cd2 "_law_digits" = true) (k2 : PySem.W.keepIn K (.ref f2) = true)
    {f3 : Addr} {od3 an3 : Option Addr} {sl3 : Array (Option Value)} {oc3 kV3 dc3 pm3 cd3 ct3 : Value}
    (a3 : PySem.W.nsIn K mainGlobals "_law_draw" = some (some (.ref f3))) (l3 : K.lookup f3 = some ⟨oc3, od3, .func (PySem.W.fnOf "_law_draw" "_law_draw" (defArgs s__law_draw) (defBody s__law_draw) (defScope s__law_draw) .none kV3 dc3 pm3 an3 cd3 ct3), sl3⟩) (c3 : PySem.W.codeIn K cd3 "_law_draw" = true) (k3 : PySem.W.keepIn K (.ref f3) = true)
    {f4 : Addr} {od4 an4 : Option Addr} {sl4 : Array (Option Value)} {oc4 kV4 dc4 pm4 cd4 ct4 : Value}
    (a4 : PySem.W.nsIn K mainGlobals "_law_words" = some (some (.ref f4))) (l4 : K.lookup f4 = some ⟨oc4, od4, .func (PySem.W.fnOf "_law_words" "_law_words" (defArgs s__law_words) (defBody s__law_words) (defScope s__law_words) .none kV4 dc4 pm4 an4 cd4 ct4), sl4⟩) (c4 : PySem.W.codeIn K cd4 "_law_words" = true) (k4 : PySem.W.keepIn K (.ref f4) = true)
    {f5 : Addr} {od5 an5 : Option Addr} {sl5 : Array (Option Value)} {oc5 kV5 dc5 pm5 cd5 ct5 : Value}
    (a5 : PySem.W.nsIn K mainGlobals "law" = some (some (.ref f5))) (l5 : K.lookup f5 = some ⟨oc5, od5, .func (PySem.W.fnOf "law" "law" (defArgs s_law) (defBody s_law) (defScope s_law) .none kV5 dc5 pm5 an5 cd5 ct5), sl5⟩) (c5 : PySem.W.codeIn K cd5 "law" = true) (k5 : PySem.W.keepIn K (.ref f5) = true)
    (z0 : PySem.W.nsIn K mainGlobals "bool" = some none)
    (z1 : PySem.W.nsIn K mainGlobals "int" = some none)
    (z2 : PySem.W.nsIn K mainGlobals "isinstance" = some none)
    (z3 : PySem.W.nsIn K mainGlobals "len" = some none)
    (z4 : PySem.W.nsIn K mainGlobals "range" = some none)
    (z5 : PySem.W.nsIn K mainGlobals "tuple" = some none)
    : ∃ fd : FuncData, (∀ (s : Shared) (v : Value), BindsTo s fd ⟨[v], []⟩ [("_law_script", v)]) ∧ ∀ base : Heap, K.In base → base.Ns mainGlobals mg → FnG l.prog w K mg base 3 fa fd ["_law_script"] (sp_law K A) := by
  have e := hfa.symm.trans (PySem.W.mg_of X G a5)
  cases e
  have F0 := fun_mk (st := s_conflicts) l0 c0 k0
  have b0 := F0.binds (ps := ["number", "words", "held"]) fun _ _ _ _ _ _ us hl => match us, hl with | [_, _, _], _ => rfl
  have F1 := fun_mk (st := s__law_cell) l1 c1 k1
  have b1 := F1.binds (ps := ["_law_script", "_law_k"]) fun _ _ _ _ _ _ us hl => match us, hl with | [_, _], _ => rfl
  have F2 := fun_mk (st := s__law_digits) l2 c2 k2
  have b2 := F2.binds (ps := ["_law_script", "_law_first", "_law_last"]) fun _ _ _ _ _ _ us hl => match us, hl with | [_, _, _], _ => rfl
  have F3 := fun_mk (st := s__law_draw) l3 c3 k3
  have b3 := F3.binds (ps := ["_law_box", "_law_many"]) fun _ _ _ _ _ _ us hl => match us, hl with | [_, _], _ => rfl
  have F4 := fun_mk (st := s__law_words) l4 c4 k4
  have b4 := F4.binds (ps := ["_law_box"]) fun _ _ _ _ _ _ us hl => match us, hl with | [_], _ => rfl
  have F5 := fun_mk (st := s_law) l5 c5 k5
  have b5 := F5.binds (ps := ["_law_script"]) fun _ _ _ _ _ _ us hl => match us, hl with | [_], _ => rfl
  have T : Top K mg A ⟨_, _, _, _, _, _, _, _, _, _, _, _⟩ := ⟨F0, b0, PySem.W.mg_of X G a0, F1, b1, PySem.W.mg_of X G a1, F2, b2, PySem.W.mg_of X G a2, F3, b3, PySem.W.mg_of X G a3, F4, b4, PySem.W.mg_of X G a4, F5, b5, PySem.W.mg_of X G a5, PySem.W.mg_none_of X G z0, PySem.W.mg_none_of X G z1, PySem.W.mg_none_of X G z2, PySem.W.mg_none_of X G z3, PySem.W.mg_none_of X G z4, PySem.W.mg_none_of X G z5⟩
  exact ⟨_, fun s v => .of_eq rfl, fun base _ _ => ok_law T⟩
end Rs
open PySem PySem.W PyProof.Rows
set_option maxRecDepth 100000 in
set_option maxHeartbeats 0 in
theorem PySem.Challenge.cw_recstore_k24_conflicts_met_holds : PySem.Challenge.rw_recstore_k24_conflicts_met.Holds := by
  w_on; o_law; k_head; (case hw => w_witness2)
  k_fill
  refine Rs.walk_ofG (l := PySem.Challenge.rw_recstore_k24_conflicts_met) (n := 63) (k := 3) (x := "_law_script") (sp := fun K => Rs.sp_law K Rs.A0) rfl (by decide) rfl ⟨rfl, by decide, by decide⟩ (fun w h Y => PySem.W.kIn_of Y) ?F (fun _ _ a ns _ _ _ hS => ⟨a, ns, rfl, hS, fun _ => rfl⟩)
  case F =>
    intro w mg fa h KX G hmg
    refine' Rs.all_mk KX G hmg ?a0 ?l0 ?c0 ?k0 ?a1 ?l1 ?c1 ?k1 ?a2 ?l2 ?c2 ?k2 ?a3 ?l3 ?c3 ?k3 ?a4 ?l4 ?c4 ?k4 ?a5 ?l5 ?c5 ?k5 ?z0 ?z1 ?z2 ?z3 ?z4 ?z5
    (case a0 => k_is); (case l0 => k_is); (case c0 => k_is); (case k0 => k_is); (case a1 => k_is); (case l1 => k_is); (case c1 => k_is); (case k1 => k_is)
    (case a2 => k_is); (case l2 => k_is); (case c2 => k_is); (case k2 => k_is); (case a3 => k_is); (case l3 => k_is); (case c3 => k_is); (case k3 => k_is)
    (case a4 => k_is); (case l4 => k_is); (case c4 => k_is); (case k4 => k_is); (case a5 => k_is); (case l5 => k_is); (case c5 => k_is); (case k5 => k_is)
    (case z0 => k_is); (case z1 => k_is); (case z2 => k_is); (case z3 => k_is); (case z4 => k_is); (case z5 => k_is)
