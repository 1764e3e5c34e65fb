import PyProof.Rows.All
import Wide.All
import OpenK.AllK
import Wide.FinOn
import HandS.ForMost
import HandS.ForExc
import HandS.Flow
import HandS.Defaults
import HandS.CallSlots
import HandS.Zip
import HandS.TryMany
import HandS.Evl
import HandS.Wide
import HandS.WideBits
import HandS.TupAny
import HandS.TupMul
import HandS.IsInst
import HandS.Conv
import HandS.SortInts
import KE.GoesNew
import KE.GoesEnum
import KE.GoesEnumKw
import HandS.List
import HandS.Comp
import HandS.MakeKwOnly
import HandS.Ends
import HandS.Words
import HandS.ExcInit
import HandS.ExcField
import HandS.HeadHook2
import HandS.Head2
import HandS.EndBits
import PySem.Challenge.RW_splitclimb_k33_choices_by_rules
import KE.KStateDown
import HandS.Head0
import HandS.Head1
import HandS.HeadEnd
import HandS.HeadHook1
set_option Elab.async false
set_option linter.all false
set_option maxRecDepth 100000
set_option maxHeartbeats 2000000
/-! A logic without the heap, over the hand layer: data trees D, owned objects M, judgements EJ (expressions), TJ (tests), SJ (statements). -/
namespace SL
open PySem PySem.Spec PyProof.Rows L2 Evl

/-- data -/
inductive D where
  | non | bl (b : Bool) | int (i : Int) | str (x : Str) | ty (n : String)
  | lst (ds : List D) | tup (ds : List D)
  | dct (kvs : List (Key × D))
  | ins (C : Addr) (fs : List (Str × D))
  /-- a list that is locked (the script) -/
  | fz (ds : List D)
  | raw (v : V)

/-- in the frozen part F, v reads as d -/
inductive R (K : PySem.W.Frag) (F : Hp) : V → D → Prop
  | non : R K F .non .non
  | bl (b : Bool) : R K F (.bl b) (.bl b)
  | int (i : Int) : R K F (.int i) (.int i)
  | str (x : Str) : R K F (.str x) (.str x)
  | ty (n : String) : R K F (.ty n) (.ty n)
  | lst {a : Addr} {xs : List V} {ds : List D} (h : F a = some (.lst xs)) (n : xs.length = ds.length) (g : ∀ (i : Nat) (v : V) (d : D), xs[i]? = some v → ds[i]? = some d → R K F v d) : R K F (.ref a) (.lst ds)
  | tup {a : Addr} {xs : List V} {ds : List D} (h : SqT K F a xs) (n : xs.length = ds.length) (g : ∀ (i : Nat) (v : V) (d : D), xs[i]? = some v → ds[i]? = some d → R K F v d) : R K F (.ref a) (.tup ds)
  | dct {a : Addr} {xs : List (Key × V)} {ds : List (Key × D)} (h : F a = some (.dK xs)) (n : xs.map (·.1) = ds.map (·.1)) (g : ∀ (i : Nat) (v : Key × V) (d : Key × D), xs[i]? = some v → ds[i]? = some d → R K F v.2 d.2) : R K F (.ref a) (.dct ds)
  | ins {a C dx : Addr} {xs : List (Str × V)} {ds : List (Str × D)} (h : F a = some (.ins C dx xs)) (n : xs.map (·.1) = ds.map (·.1)) (g : ∀ (i : Nat) (v : Str × V) (d : Str × D), xs[i]? = some v → ds[i]? = some d → R K F v.2 d.2) : R K F (.ref a) (.ins C ds)
  | fz {a : Addr} {xs : List V} {ds : List D} (h : SqL K F a xs) (n : xs.length = ds.length) (g : ∀ (i : Nat) (v : V) (d : D), xs[i]? = some v → ds[i]? = some d → R K F v d) : R K F (.ref a) (.fz ds)
  | raw (v : V) : R K F v (.raw v)

/-! what stands in H stands in H': Evl.Ex -/
theorem exBack {H H' : Hp} (e : Ex H H') {p : Addr} (h : H' p = none) : H p = none := fresh_back e h
theorem exBoth {F H : Hp} (e : Ex F H) {p : Addr} {o : HO} : Ex (upd F p o) (upd H p o) := fun a u ha => by
  by_cases q : a = p
  · subst q; rw [upd_same] at ha ⊢; exact ha
  · rw [upd_ne q] at ha ⊢; exact e a u ha

theorem R.mono {K : PySem.W.Frag} {F F' : Hp} (e : Ex F F') {v : V} {d : D} (h : R K F v d) : R K F' v d := by
  induction h with
  | non => exact .non
  | bl b => exact .bl b
  | int i => exact .int i
  | str x => exact .str x
  | ty n => exact .ty n
  | lst h n g ih => exact .lst (e _ _ h) n ih
  | fz h n g ih => exact .fz (ex_l e h) n ih
  | tup h n g ih => exact .tup (ex_t e h) n ih
  | dct h n g ih => exact .dct (e _ _ h) n ih
  | ins h n g ih => exact .ins (e _ _ h) n ih
  | raw v => exact .raw v

/-- item by item -/
def RA (K : PySem.W.Frag) (F : Hp) (xs : List V) (ds : List D) : Prop := xs.length = ds.length ∧ ∀ (i : Nat) (v : V) (d : D), xs[i]? = some v → ds[i]? = some d → R K F v d
section
variable {K : PySem.W.Frag} {F F' : Hp} {xs ys : List V} {ds es : List D} {v : V} {d : D}
theorem RA.mono (e : Ex F F') (h : RA K F xs ds) : RA K F' xs ds := ⟨h.1, fun i v d a b => (h.2 i v d a b).mono e⟩
theorem RA.nil : RA K F [] [] := ⟨rfl, fun i v d a b => by simp at a⟩
theorem RA.cons (r : R K F v d) (h : RA K F xs ds) : RA K F (v :: xs) (d :: ds) := ⟨by simp [h.1], fun i v' d' a b => by
  cases i with
  | zero => simp at a b; subst a; subst b; exact r
  | succ i => exact h.2 i v' d' (by simpa using a) (by simpa using b)⟩
theorem RA.uncons {xs : List V} (h : RA K F xs (d :: ds)) : ∃ v ys, xs = v :: ys ∧ R K F v d ∧ RA K F ys ds := by
  cases xs with
  | nil => exact absurd h.1 (by simp)
  | cons v ys => exact ⟨v, ys, rfl, h.2 0 v d rfl rfl, by simpa using h.1, fun i v' d' a b => h.2 (i + 1) v' d' (by simpa using a) (by simpa using b)⟩
theorem RA.nil_of {xs : List V} (h : RA K F xs []) : xs = [] := List.eq_nil_of_length_eq_zero (by simpa using h.1)
theorem RA.append (a : RA K F xs ds) (b : RA K F ys es) : RA K F (xs ++ ys) (ds ++ es) := ⟨by simp [a.1, b.1], fun i v d h1 h2 => by
  by_cases hi : i < xs.length
  · rw [List.getElem?_append_left hi] at h1
    rw [List.getElem?_append_left (by rw [← a.1]; exact hi)] at h2
    exact a.2 i v d h1 h2
  · rw [List.getElem?_append_right (by omega)] at h1
    rw [List.getElem?_append_right (by rw [← a.1]; omega), ← a.1] at h2
    exact b.2 _ v d h1 h2⟩
theorem RA.get (h : RA K F xs ds) {i : Nat} (e : ds[i]? = some d) : ∃ v, xs[i]? = some v ∧ R K F v d := by
  have hi : i < ds.length := (List.getElem?_eq_some_iff.mp e).1
  have hx : i < xs.length := by rw [h.1]; exact hi
  exact ⟨xs[i], by simp [hx], h.2 i _ d (by simp [hx]) e⟩
theorem RA.set (h : RA K F xs ds) (r : R K F v d) (i : Nat) : RA K F (xs.set i v) (ds.set i d) := ⟨by simp [h.1], fun j w e h1 h2 => by
  by_cases q : i = j
  · subst q
    rw [List.getElem?_set] at h1 h2
    simp only [if_true] at h1 h2
    split at h1
    · split at h2
      · cases h1; cases h2; exact r
      · cases h2
    · cases h1
  · rw [List.getElem?_set_ne q] at h1 h2
    exact h.2 j w e h1 h2⟩
theorem RA.take (h : RA K F xs ds) (n : Nat) : RA K F (xs.take n) (ds.take n) := ⟨by simp [h.1], fun i v d h1 h2 => by
  rw [List.getElem?_take] at h1 h2
  split at h1
  · rename_i q; rw [if_pos q] at h2; exact h.2 i v d h1 h2
  · cases h1⟩
theorem RA.drop (h : RA K F xs ds) (n : Nat) : RA K F (xs.drop n) (ds.drop n) := ⟨by simp [h.1], fun i v d h1 h2 => by
  rw [List.getElem?_drop] at h1 h2
  exact h.2 _ v d h1 h2⟩
theorem RA.reverse (h : RA K F xs ds) : RA K F xs.reverse ds.reverse := ⟨by simp [h.1], fun i v d h1 h2 => by
  by_cases hi : i < xs.length
  · rw [List.getElem?_reverse hi] at h1
    rw [List.getElem?_reverse (by rw [← h.1]; exact hi)] at h2
    exact h.2 _ v d h1 (by rw [h.1]; exact h2)
  · rw [List.getElem?_eq_none (by simp; omega)] at h1; cases h1⟩
theorem RA.replicate (r : R K F v d) (n : Nat) : RA K F (List.replicate n v) (List.replicate n d) := ⟨by simp, fun i v' d' h1 h2 => by
  rw [List.getElem?_replicate] at h1 h2
  split at h1
  · rename_i q; rw [if_pos q] at h2; cases h1; cases h2; exact r
  · cases h1⟩
theorem RA.repl (h : RA K F xs ds) : ∀ n : Nat, RA K F (List.replicate n xs).flatten (List.replicate n ds).flatten
  | 0 => by simpa using RA.nil
  | n + 1 => by
    rw [List.replicate_succ, List.replicate_succ, List.flatten_cons, List.flatten_cons]
    exact h.append (h.repl n)
theorem RA.eraseIdx (h : RA K F xs ds) (n : Nat) : RA K F (xs.eraseIdx n) (ds.eraseIdx n) := by
  rw [List.eraseIdx_eq_take_drop_succ, List.eraseIdx_eq_take_drop_succ]
  exact (h.take n).append (h.drop (n + 1))
end

/-! ### what is owned -/
inductive MO where
  | lst (ds : List D)
  | dct (kvs : List (Key × D))
  | ins (C : Addr) (fs : List (Str × D))
abbrev Mem := List (Addr × MO)
def MOk (K : PySem.W.Frag) (F H : Hp) (a : Addr) : MO → Prop
  | .lst ds => ∃ vs, H a = some (.lst vs) ∧ RA K F vs ds
  | .dct kvs => ∃ ks, H a = some (.dK ks) ∧ ks.map (·.1) = kvs.map (·.1) ∧ RA K F (ks.map (·.2)) (kvs.map (·.2))
  | .ins C fs => ∃ dx gs, H a = some (.ins C dx gs) ∧ H dx = some (.own a) ∧ F dx = none ∧ gs.map (·.1) = fs.map (·.1) ∧ RA K F (gs.map (·.2)) (fs.map (·.2))
structure RelM (K : PySem.W.Frag) (M : Mem) (F H : Hp) : Prop where
  ex : Ex F H
  nd : (M.map (·.1)).Nodup
  own : ∀ p ∈ M, F p.1 = none ∧ MOk K F H p.1 p.2
section
variable {K : PySem.W.Frag} {F F' H H' : Hp} {M N : Mem} {a : Addr} {o : MO}
theorem MOk.there (h : MOk K F H a o) : ∃ u, H a = some u := by
  cases o with
  | lst ds => obtain ⟨vs, e, _⟩ := h; exact ⟨_, e⟩
  | dct kvs => obtain ⟨vs, e, _⟩ := h; exact ⟨_, e⟩
  | ins C fs => obtain ⟨dx, gs, e, _⟩ := h; exact ⟨_, e⟩
theorem MOk.notOwn (h : MOk K F H a o) (x : Addr) : H a ≠ some (.own x) := by
  cases o with
  | lst ds => obtain ⟨vs, e, _⟩ := h; rw [e]; intro z; cases z
  | dct kvs => obtain ⟨vs, e, _⟩ := h; rw [e]; intro z; cases z
  | ins C fs => obtain ⟨dx, gs, e, _⟩ := h; rw [e]; intro z; cases z
/-- a new address p, whatever is laid there, frozen or not -/
theorem MOk.grow (h : MOk K F H a o) (ex : Ex F F') (hk : ∀ b u, H b = some u → H' b = some u) (hn : ∀ b, F b = none → H b ≠ none → F' b = none) : MOk K F' H' a o := by
  cases o with
  | lst ds => obtain ⟨vs, e, r⟩ := h; exact ⟨vs, hk _ _ e, r.mono ex⟩
  | dct kvs => obtain ⟨vs, e, k, r⟩ := h; exact ⟨vs, hk _ _ e, k, r.mono ex⟩
  | ins C fs => obtain ⟨dx, gs, e, e2, n, k, r⟩ := h; exact ⟨dx, gs, hk _ _ e, hk _ _ e2, hn dx n (by rw [e2]; intro z; cases z), k, r.mono ex⟩
/-- F and H grow -/
theorem RelM.grow (h : RelM K M F H) (ex : Ex F F') (ex' : Ex F' H') (hk : ∀ b u, H b = some u → H' b = some u) (hn : ∀ b, F b = none → H b ≠ none → F' b = none) : RelM K M F' H' :=
  ⟨ex', h.nd, fun p hp => by
    obtain ⟨h1, h2⟩ := h.own p hp
    obtain ⟨u, hu⟩ := h2.there
    exact ⟨hn _ h1 (by rw [hu]; intro z; cases z), h2.grow ex hk hn⟩⟩
/-- a new frozen object -/
theorem RelM.newF {p : Addr} {u : HO} (h : RelM K M F H) (hp : H p = none) : RelM K M (upd F p u) (upd H p u) :=
  h.grow (Ex.new (exBack h.ex hp)) (exBoth h.ex) (Ex.new hp) fun b h1 h2 => by
    rw [upd_ne (fun z => h2 (by rw [z]; exact hp))]
    exact h1
/-- a new object that nobody owns -/
theorem RelM.newU {p : Addr} {u : HO} (h : RelM K M F H) (hp : H p = none) : RelM K M F (upd H p u) :=
  h.grow (Ex.refl F) (h.ex.mut (exBack h.ex hp)) (Ex.new hp) fun _ h1 _ => h1
/-- a new owned object -/
theorem RelM.newO {p : Addr} {u : HO} (h : RelM K M F H) (hp : H p = none) (hu : MOk K F (upd H p u) p o) : RelM K ((p, o) :: M) F (upd H p u) := by
  have g := h.newU (u := u) hp
  refine ⟨g.ex, ?_, fun q hq => ?_⟩
  · rw [List.map_cons, List.nodup_cons]
    refine ⟨fun hm => ?_, h.nd⟩
    obtain ⟨q, hq, e⟩ := List.mem_map.mp hm
    obtain ⟨v, hv⟩ := (h.own q hq).2.there
    rw [e, hp] at hv; cases hv
  · rcases List.mem_cons.mp hq with rfl | hq
    · exact ⟨exBack h.ex hp, hu⟩
    · exact g.own q hq
/-- an owned object is written -/
theorem RelM.write {i : Nat} {u : HO} {o' : MO} (h : RelM K M F H) (hi : M[i]? = some (a, o)) (hu : MOk K F (upd H a u) a o') : RelM K (M.set i (a, o')) F (upd H a u) := by
  have hm : (a, o) ∈ M := List.mem_of_getElem? hi
  obtain ⟨f0, m0⟩ := h.own _ hm
  have hil : i < M.length := (List.getElem?_eq_some_iff.mp hi).1
  have e0 : (M.set i (a, o')).map (·.1) = M.map (·.1) := by
    rw [List.map_set]
    refine List.ext_getElem? fun j => ?_
    by_cases q : i = j
    · subst q
      rw [List.getElem?_set_self (by simpa using hil), List.getElem?_map, hi]; rfl
    · rw [List.getElem?_set_ne q]
  refine ⟨h.ex.mut f0, by rw [e0]; exact h.nd, fun p hp => ?_⟩
  obtain ⟨j, hj⟩ := List.mem_iff_getElem?.mp hp
  by_cases q : i = j
  · subst q
    rw [List.getElem?_set_self hil] at hj
    cases hj
    exact ⟨f0, hu⟩
  · rw [List.getElem?_set_ne q] at hj
    have hpm := List.mem_of_getElem? hj
    obtain ⟨h1, h2⟩ := h.own p hpm
    have hne : p.1 ≠ a := by
      intro z
      have a1 : (M.map (·.1))[i]? = some a := by rw [List.getElem?_map, hi]; rfl
      have a2 : (M.map (·.1))[j]? = some a := by rw [List.getElem?_map, hj, ← z]; rfl
      exact q (nd_ix h.nd a1 a2)
    refine ⟨h1, ?_⟩
    obtain ⟨p1, p2⟩ := p
    cases p2 with
    | lst ds => obtain ⟨vs, e, r⟩ := h2; exact ⟨vs, by rw [upd_ne hne]; exact e, r⟩
    | dct kvs => obtain ⟨vs, e, k, r⟩ := h2; exact ⟨vs, by rw [upd_ne hne]; exact e, k, r⟩
    | ins C fs =>
      obtain ⟨dx, gs, e, e2, n, k, r⟩ := h2
      refine ⟨dx, gs, by rw [upd_ne hne]; exact e, ?_, n, k, r⟩
      rw [upd_ne]
      · exact e2
      · intro z
        exact m0.notOwn p1 (by rw [← z]; exact e2)
/-- fewer are told -/
theorem RelM.sub (h : RelM K M F H) (s : N.Sublist M) : RelM K N F H :=
  ⟨h.ex, h.nd.sublist (s.map _), fun p hp => h.own p (s.subset hp)⟩
theorem RelM.perm (h : RelM K M F H) (s : M.Perm N) : RelM K N F H :=
  ⟨h.ex, (s.map _).nodup_iff.mp h.nd, fun p hp => h.own p (s.mem_iff.mpr hp)⟩
end
theorem ra_of {K : PySem.W.Frag} {F : Hp} {xs : List V} {ds : List D} (n : xs.length = ds.length) (g : ∀ (i : Nat) (v : V) (d : D), xs[i]? = some v → ds[i]? = some d → R K F v d) : RA K F xs ds := ⟨n, g⟩
/-- an owned list is frozen -/
theorem RelM.freeze {K : PySem.W.Frag} {F H : Hp} {M : Mem} {i : Nat} {a : Addr} {ds : List D} (h : RelM K M F H) (hi : M[i]? = some (a, .lst ds)) :
    ∃ F', Ex F F' ∧ R K F' (.ref a) (.lst ds) ∧ RelM K (M.eraseIdx i) F' H := by
  have hm : (a, MO.lst ds) ∈ M := List.mem_of_getElem? hi
  obtain ⟨f0, vs, e, r⟩ := h.own _ hm
  have ex1 : Ex F (upd F a (.lst vs)) := Ex.new f0
  have r' := r.mono ex1
  refine ⟨upd F a (.lst vs), ex1, .lst upd_same r'.1 r'.2, ?_⟩
  have ex' : Ex (upd F a (.lst vs)) H := fun b u hb => by
    by_cases q : b = a
    · subst q; rw [upd_same] at hb; cases hb; exact e
    · rw [upd_ne q] at hb; exact h.ex b u hb
  refine ⟨ex', h.nd.sublist ((List.eraseIdx_sublist M i).map _), fun p hp => ?_⟩
  obtain ⟨h1, h2⟩ := h.own p ((List.eraseIdx_sublist M i).subset hp)
  have hne : p.1 ≠ a := by
    intro z
    obtain ⟨j, hj⟩ := List.mem_iff_getElem?.mp hp
    rw [List.getElem?_eraseIdx] at hj
    have a1 : (M.map (·.1))[i]? = some a := by rw [List.getElem?_map, hi]; rfl
    split at hj
    · have a2 : (M.map (·.1))[j]? = some a := by rw [List.getElem?_map, hj, ← z]; rfl
      have := nd_ix h.nd a1 a2
      omega
    · have a2 : (M.map (·.1))[j + 1]? = some a := by rw [List.getElem?_map, hj, ← z]; rfl
      have := nd_ix h.nd a1 a2
      omega
  refine ⟨by rw [upd_ne hne]; exact h1, ?_⟩
  obtain ⟨p1, p2⟩ := p
  cases p2 with
  | lst ds => obtain ⟨vs, e, r⟩ := h2; exact ⟨vs, e, r.mono ex1⟩
  | dct kvs => obtain ⟨vs, e, k, r⟩ := h2; exact ⟨vs, e, k, r.mono ex1⟩
  | ins C fs =>
    obtain ⟨dx, gs, e1, e2, n, k, r⟩ := h2
    refine ⟨dx, gs, e1, e2, ?_, k, r.mono ex1⟩
    rw [upd_ne]
    · exact n
    · intro z
      rw [z, e] at e2; cases e2

/-! ### slots -/
abbrev Sls := List (Option D)
def Slots (K : PySem.W.Frag) (F : Hp) (st : Sls) (σ : L2.St) : Prop := st.length = σ.length ∧ ∀ (i : Nat) (d : D), st[i]? = some (some d) → ∃ v, σ[i]? = some (some v) ∧ R K F v d
section
variable {K : PySem.W.Frag} {F F' : Hp} {st : Sls} {σ : L2.St}
theorem Slots.mono (h : Slots K F st σ) (e : Ex F F') : Slots K F' st σ := ⟨h.1, fun i d q => let ⟨v, a, r⟩ := h.2 i d q; ⟨v, a, r.mono e⟩⟩
theorem Slots.set {i : Nat} {v : V} {d : D} (h : Slots K F st σ) (r : R K F v d) : Slots K F (st.set i (some d)) (σ.set i (some v)) := ⟨by simp [h.1], fun j e q => by
  by_cases z : i = j
  · subst z
    rw [List.getElem?_set] at q
    simp only [if_true] at q
    split at q
    · rename_i hl
      cases q
      exact ⟨v, by rw [List.getElem?_set_self (by rw [← h.1]; exact hl)], r⟩
    · cases q
  · rw [List.getElem?_set_ne z] at q
    rw [List.getElem?_set_ne z]
    exact h.2 j e q⟩
theorem Slots.forget {i : Nat} (h : Slots K F st σ) : Slots K F (st.set i none) (σ.set i none) := ⟨by simp [h.1], fun j e q => by
  by_cases z : i = j
  · subst z
    rw [List.getElem?_set] at q
    simp only [if_true] at q
    split at q <;> cases q
  · rw [List.getElem?_set_ne z] at q
    rw [List.getElem?_set_ne z]
    exact h.2 j e q⟩
def wipeD (st : Sls) : List Nat → Sls
  | [] => st
  | v :: vs => (wipeD st vs).set v none
theorem Slots.wipe (h : Slots K F st σ) : ∀ vs : List Nat, Slots K F (wipeD st vs) (L2.wipe σ vs)
  | [] => h
  | v :: vs => by
    unfold wipeD L2.wipe
    exact (h.wipe vs).forget
end
end SL

set_option maxHeartbeats 2000000
/-! The judgements. -/
namespace SL
open PySem PySem.Spec PyProof.Rows L2 Evl

/-! ### the least readings -/
section
variable (X : Cx)
def W (e : Expr) : TE := fun σ H Q => ∀ (pins : List (Addr × Obj)) (s : Shared), Inv X pins σ H s → wpAny (model X.prog X.w) X.A (eval e X.env) (EP X pins σ Q) X.xe s
def WT (e : Expr) : TT := fun σ H Q => ∀ (pins : List (Addr × Obj)) (s : Shared), Inv X pins σ H s → wpAny (model X.prog X.w) X.A (isTrue e X.env (eval e X.env)) (TP X pins σ Q) X.xe s
def WA (es : List Expr) : TA := fun σ H Q => ∀ (pos : Pos) (pins : List (Addr × Obj)) (s : Shared), Inv X pins σ H s → wpAny (model X.prog X.w) X.A (spliced (backTo pos (starEach es X.env))) (AP X pins σ Q) X.xe s
def WS (st : Stmt) : TS := fun D σ H => ∀ (pins : List (Addr × Obj)) (s : Shared), Inv X pins σ H s → wpAny (model X.prog X.w) X.A (exec st X.env) (SP X pins D) X.xe s
def WSs (st : List Stmt) : TS := fun D σ H => ∀ (pins : List (Addr × Obj)) (s : Shared), Inv X pins σ H s → wpAny (model X.prog X.w) X.A (execs st X.env) (SP X pins D) X.xe s
def WG (tg : Expr) : TG := fun v σ H Q => ∀ (pins : List (Addr × Obj)) (s : Shared) (u : Value), Inv X pins σ H s → RelV v u → wpAny (model X.prog X.w) X.A (assign tg X.env u) (fun _ s' => ∃ σ' H', Inv X pins σ' H' s' ∧ Q σ' H') X.xe s
def rOp (f : Value → Value → Sem Value) : R2 := fun x y H Q => ∀ (pins : List (Addr × Obj)) (s : Shared) (σ : L2.St) (v u : Value), Inv X pins σ H s → RelV x v → RelV y u → wpAny (model X.prog X.w) X.A (f v u) (EP X pins σ Q) X.xe s
def rUn (f : Value → Sem Value) : V → Hp → VK → Prop := fun x H Q => ∀ (pins : List (Addr × Obj)) (s : Shared) (σ : L2.St) (v : Value), Inv X pins σ H s → RelV x v → wpAny (model X.prog X.w) X.A (f v) (EP X pins σ Q) X.xe s
def rCl (f : Value) : List V → Hp → VK → Prop := fun xs H Q => ∀ (pins : List (Addr × Obj)) (s : Shared) (σ : L2.St) (us : List Value), Inv X pins σ H s → Vals xs us → wpAny (model X.prog X.w) X.A (call f us) (EP X pins σ Q) X.xe s
def rMt (id : String) : V → List V → Hp → VK → Prop := fun x xs H Q => ∀ (pins : List (Addr × Obj)) (s : Shared) (σ : L2.St) (v : Value) (us : List Value), Inv X pins σ H s → RelV x v → Vals xs us → wpAny (model X.prog X.w) X.A (call (.builtin id) (v :: us)) (EP X pins σ Q) X.xe s
def rTr : V → Hp → (Bool → Hp → Prop) → Prop := fun x H Q => ∀ (pins : List (Addr × Obj)) (s : Shared) (σ : L2.St) (v : Value), Inv X pins σ H s → RelV x v → wpAny (model X.prog X.w) X.A (truthy v) (TP X pins σ Q) X.xe s
end
section
variable {X : Cx} {e : Expr} {es : List Expr} {st : Stmt} {sts : List Stmt} {σ : L2.St} {H : Hp} {Q Q' : VK}
theorem pe_W : PE X e (W X e) := ⟨fun pins s _ _ _ I h => h pins s I⟩
theorem pt_W : PT X e (WT X e) := ⟨fun pins s _ _ _ I h => h pins s I⟩
theorem pa_W : PA X es (WA X es) := ⟨fun pos pins s _ _ _ I h => h pos pins s I⟩
theorem ps_W : PS X st (WS X st) := ⟨fun pins s _ _ _ I h => h pins s I⟩
theorem pss_W : PSs X sts (WSs X sts) := ⟨fun pins s _ _ _ I h => h pins s I⟩
theorem pg_W {tg : Expr} : PG X tg (WG X tg) := ⟨fun pins s _ _ _ u _ I r h => h pins s u I r⟩
theorem op_W {f : Value → Value → Sem Value} : OpR X f (rOp X f) := fun pins s σ _ _ _ v u _ I r1 r2 h => h pins s σ v u I r1 r2
theorem un_W {f : Value → Sem Value} : UnR X f (rUn X f) := fun pins s σ _ _ v _ I r h => h pins s σ v I r
theorem cl_W {f : Value} : CallR X f (rCl X f) := fun pins s σ _ _ us _ I r h => h pins s σ us I r
theorem mt_W {id : String} : MtR X id (rMt X id) := fun pins s σ _ _ _ v us _ I r1 r2 h => h pins s σ v us I r1 r2
theorem tr_W : TruR X (rTr X) := fun pins s σ _ _ v _ I r h => h pins s σ v I r
theorem W.of {t : TE} (h : PE X e t) (q : t σ H Q) : W X e σ H Q := fun pins s I => h.run pins s σ H Q I q
theorem WT.of {t : TT} {Q : Bool → Hp → Prop} (h : PT X e t) (q : t σ H Q) : WT X e σ H Q := fun pins s I => h.run pins s σ H Q I q
theorem WA.of {t : TA} {Q : List V → Hp → Prop} (h : PA X es t) (q : t σ H Q) : WA X es σ H Q := fun pos pins s I => h.run pos pins s σ H Q I q
theorem WS.of {t : TS} {D : Ends} (h : PS X st t) (q : t D σ H) : WS X st D σ H := fun pins s I => h.run pins s σ H D I q
theorem WSs.of {t : TS} {D : Ends} (h : PSs X sts t) (q : t D σ H) : WSs X sts D σ H := fun pins s I => h.run pins s σ H D I q
theorem rOp.of {f : Value → Value → Sem Value} {r : R2} {x y : V} (h : OpR X f r) (q : r x y H Q) : rOp X f x y H Q := fun pins s σ v u I r1 r2 => h pins s σ H x y v u Q I r1 r2 q
theorem rUn.of {f : Value → Sem Value} {r : V → Hp → VK → Prop} {x : V} (h : UnR X f r) (q : r x H Q) : rUn X f x H Q := fun pins s σ v I r1 => h pins s σ H x v Q I r1 q
theorem rCl.of {f : Value} {r : List V → Hp → VK → Prop} {xs : List V} (h : CallR X f r) (q : r xs H Q) : rCl X f xs H Q := fun pins s σ us I r1 => h pins s σ H xs us Q I r1 q
theorem rMt.of {id : String} {r : V → List V → Hp → VK → Prop} {x : V} {xs : List V} (h : MtR X id r) (q : r x xs H Q) : rMt X id x xs H Q := fun pins s σ v us I r1 r2 => h pins s σ H x xs v us Q I r1 r2 q
theorem rTr.of {r : V → Hp → (Bool → Hp → Prop) → Prop} {x : V} {Q : Bool → Hp → Prop} (h : TruR X r) (q : r x H Q) : rTr X x H Q := fun pins s σ v I r1 => h pins s σ H x v Q I r1 q
theorem W.imp (h : W X e σ H Q) (k : ∀ v H', Q v H' → Q' v H') : W X e σ H Q' := fun pins s I => thn (h pins s I) fun _ _ ⟨v, H', I', r, q⟩ => ⟨v, H', I', r, k v H' q⟩
theorem WT.imp {Q Q' : Bool → Hp → Prop} (h : WT X e σ H Q) (k : ∀ b H', Q b H' → Q' b H') : WT X e σ H Q' := fun pins s I => thn (h pins s I) fun _ _ ⟨H', I', q⟩ => ⟨H', I', k _ H' q⟩
theorem WA.imp {Q Q' : List V → Hp → Prop} (h : WA X es σ H Q) (k : ∀ v H', Q v H' → Q' v H') : WA X es σ H Q' := fun pos pins s I => thn (h pos pins s I) fun _ _ ⟨v, H', I', r, q⟩ => ⟨v, H', I', r, k v H' q⟩
theorem SP.imp {D D' : Ends} {pins : List (Addr × Obj)} {f : Flow} {s : Shared} (h : SP X pins D f s) (k1 : ∀ σ H, D.nx σ H → D'.nx σ H) (k2 : ∀ v H, D.rt v H → D'.rt v H) (k3 : ∀ σ H, D.bk σ H → D'.bk σ H) (k4 : ∀ σ H, D.ct σ H → D'.ct σ H) : SP X pins D' f s := by
  cases f with
  | next => obtain ⟨a, b, I, q⟩ := h; exact ⟨a, b, I, k1 _ _ q⟩
  | brk => obtain ⟨a, b, I, q⟩ := h; exact ⟨a, b, I, k3 _ _ q⟩
  | cont => obtain ⟨a, b, I, q⟩ := h; exact ⟨a, b, I, k4 _ _ q⟩
  | ret u => obtain ⟨v, a, b, I, r, q⟩ := h; exact ⟨v, a, b, I, r, k2 _ _ q⟩
theorem WS.imp {D D' : Ends} (h : WS X st D σ H) (k1 : ∀ σ H, D.nx σ H → D'.nx σ H) (k2 : ∀ v H, D.rt v H → D'.rt v H) (k3 : ∀ σ H, D.bk σ H → D'.bk σ H) (k4 : ∀ σ H, D.ct σ H → D'.ct σ H) : WS X st D' σ H := fun pins s I => thn (h pins s I) fun _ _ q => SP.imp q k1 k2 k3 k4
theorem WSs.imp {D D' : Ends} (h : WSs X sts D σ H) (k1 : ∀ σ H, D.nx σ H → D'.nx σ H) (k2 : ∀ v H, D.rt v H → D'.rt v H) (k3 : ∀ σ H, D.bk σ H → D'.bk σ H) (k4 : ∀ σ H, D.ct σ H → D'.ct σ H) : WSs X sts D' σ H := fun pins s I => thn (h pins s I) fun _ _ q => SP.imp q k1 k2 k3 k4
end

/-! ### errors -/
structure Er where
  C : Addr
  fs : List (Str × D)
def ErAt (K : PySem.W.Frag) (er : Er) (cls : Value) (d : Option Addr) (F H : Hp) : Prop :=
  cls = .ref er.C ∧ ∃ dd gs, d = some dd ∧ H dd = some (.xd gs) ∧ gs.map (·.1) = er.fs.map (·.1) ∧ RA K F (gs.map (·.2)) (er.fs.map (·.2))
abbrev EK := Er → Sls → Mem → Prop
abbrev DK := D → Mem → Prop
abbrev BK := Bool → Mem → Prop

/-! ### what stands ahead, behind -/
def Pst (K : PySem.W.Frag) (Mx : Mem) (F : Hp) (Q : DK) : VK := fun v H' => ∃ d M' F', Q d M' ∧ Ex F F' ∧ R K F' v d ∧ RelM K (M' ++ Mx) F' H'
def Bst (K : PySem.W.Frag) (Mx : Mem) (F : Hp) (Q : BK) : Bool → Hp → Prop := fun b H' => ∃ M' F', Q b M' ∧ Ex F F' ∧ RelM K (M' ++ Mx) F' H'
def Ast (K : PySem.W.Frag) (Mx : Mem) (F : Hp) (Q : List D → Mem → Prop) : List V → Hp → Prop := fun vs H' => ∃ ds M' F', Q ds M' ∧ Ex F F' ∧ RA K F' vs ds ∧ RelM K (M' ++ Mx) F' H'
def Sst (K : PySem.W.Frag) (Mx : Mem) (F : Hp) (Q : Sls → Mem → Prop) : L2.St → Hp → Prop := fun σ' H' => ∃ st' M' F', Q st' M' ∧ Ex F F' ∧ Slots K F' st' σ' ∧ RelM K (M' ++ Mx) F' H'
def Wish (K : PySem.W.Frag) (Mx : Mem) (F : Hp) (E : EK) (Wx : WX) : Prop := ∀ er st' M' F' H' cls d σ', E er st' M' → Ex F F' → Slots K F' st' σ' → ErAt K er cls d F' H' → RelM K (M' ++ Mx) F' H' → Wx cls d σ' H'
structure Pre (X : Cx) (st : Sls) (M Mx : Mem) (F : Hp) (σ : L2.St) (H : Hp) (E : EK) (Wx : WX) : Prop where
  sl : Slots X.K F st σ
  m : RelM X.K (M ++ Mx) F H
  tk : Takes X Wx
  wi : Wish X.K Mx F E Wx
  un : X.A.units + 64 < cLine
section
variable {K : PySem.W.Frag} {Mx : Mem} {F F' : Hp}
theorem Pst.mono {Q : DK} (e : Ex F F') {v : V} {H : Hp} (h : Pst K Mx F' Q v H) : Pst K Mx F Q v H := let ⟨d, M', F2, q, e2, r, m⟩ := h; ⟨d, M', F2, q, e.trans e2, r, m⟩
theorem Bst.mono {Q : BK} (e : Ex F F') {b : Bool} {H : Hp} (h : Bst K Mx F' Q b H) : Bst K Mx F Q b H := let ⟨M', F2, q, e2, m⟩ := h; ⟨M', F2, q, e.trans e2, m⟩
theorem Ast.mono {Q : List D → Mem → Prop} (e : Ex F F') {v : List V} {H : Hp} (h : Ast K Mx F' Q v H) : Ast K Mx F Q v H := let ⟨d, M', F2, q, e2, r, m⟩ := h; ⟨d, M', F2, q, e.trans e2, r, m⟩
theorem Sst.mono {Q : Sls → Mem → Prop} (e : Ex F F') {σ : L2.St} {H : Hp} (h : Sst K Mx F' Q σ H) : Sst K Mx F Q σ H := let ⟨d, M', F2, q, e2, r, m⟩ := h; ⟨d, M', F2, q, e.trans e2, r, m⟩
theorem Wish.mono {E : EK} {Wx : WX} (e : Ex F F') (h : Wish K Mx F E Wx) : Wish K Mx F' E Wx := fun er st' M' F2 H' cls d σ' q e2 s a m => h er st' M' F2 H' cls d σ' q (e.trans e2) s a m
theorem Pre.next {X : Cx} {st : Sls} {M M' : Mem} {σ : L2.St} {H H' : Hp} {E : EK} {Wx : WX} (p : Pre X st M Mx F σ H E Wx) (e : Ex F F') (m : RelM X.K (M' ++ Mx) F' H') : Pre X st M' Mx F' σ H' E Wx :=
  ⟨p.sl.mono e, m, p.tk, p.wi.mono e, p.un⟩
end

/-! ### the judgements -/
section
variable (X : Cx)
def EJ (e : Expr) (st : Sls) (M : Mem) (Q : DK) (E : EK) : Prop := ∀ Mx F σ H Wx, Pre X st M Mx F σ H E Wx → W X e σ H (Pst X.K Mx F Q)
def TJ (e : Expr) (st : Sls) (M : Mem) (Q : BK) (E : EK) : Prop := ∀ Mx F σ H Wx, Pre X st M Mx F σ H E Wx → WT X e σ H (Bst X.K Mx F Q)
def AJ (es : List Expr) (st : Sls) (M : Mem) (Q : List D → Mem → Prop) (E : EK) : Prop := ∀ Mx F σ H Wx, Pre X st M Mx F σ H E Wx → WA X es σ H (Ast X.K Mx F Q)
/-- a state that the operations on values meet -/
structure At (M Mx : Mem) (F H : Hp) : Prop where
  m : RelM X.K (M ++ Mx) F H
  un : X.A.units + 64 < cLine
def OpD (f : Value → Value → Sem Value) (d1 d2 : D) (M : Mem) (Q : DK) : Prop := ∀ Mx F H v1 v2 (QV : VK), At X M Mx F H → R X.K F v1 d1 → R X.K F v2 d2 → (∀ v H', Pst X.K Mx F Q v H' → QV v H') → rOp X f v1 v2 H QV
def UnD (f : Value → Sem Value) (d : D) (M : Mem) (Q : DK) : Prop := ∀ Mx F H v (QV : VK), At X M Mx F H → R X.K F v d → (∀ v H', Pst X.K Mx F Q v H' → QV v H') → rUn X f v H QV
def ClD (f : Value) (ds : List D) (M : Mem) (Q : DK) : Prop := ∀ Mx F H vs (QV : VK), At X M Mx F H → RA X.K F vs ds → (∀ v H', Pst X.K Mx F Q v H' → QV v H') → rCl X f vs H QV
def MtD (id : String) (T : String) (d : D) (ds : List D) (M : Mem) (Q : DK) : Prop := ∀ Mx F H v vs (QV : VK), At X M Mx F H → R X.K F v d → RA X.K F vs ds → (∀ v H', Pst X.K Mx F Q v H' → QV v H') → rMt X id v vs H QV
def TrD (d : D) (M : Mem) (Q : BK) : Prop := ∀ Mx F H v (QV : Bool → Hp → Prop), At X M Mx F H → R X.K F v d → (∀ b H', Bst X.K Mx F Q b H' → QV b H') → rTr X v H QV
end
section
variable {X : Cx} {e : Expr} {es : List Expr} {st : Sls} {M Mx : Mem} {E : EK} {F H : Hp} {σ : L2.St} {Wx : WX}
theorem Pre.at_ (p : Pre X st M Mx F σ H E Wx) : At X M Mx F H := ⟨p.m, p.un⟩
/-- the end of a rule by values -/
theorem EJ.bind {Q : DK} (h : EJ X e st M Q E) (p : Pre X st M Mx F σ H E Wx) {QV : VK}
    (k : ∀ d M' F' v H', Q d M' → Ex F F' → R X.K F' v d → Pre X st M' Mx F' σ H' E Wx → QV v H') : W X e σ H QV :=
  (h Mx F σ H Wx p).imp fun v H' ⟨d, M', F', q, ex, r, m⟩ => k d M' F' v H' q ex r (p.next ex m)
theorem TJ.bind {Q : BK} (h : TJ X e st M Q E) (p : Pre X st M Mx F σ H E Wx) {QV : Bool → Hp → Prop}
    (k : ∀ b M' F' H', Q b M' → Ex F F' → Pre X st M' Mx F' σ H' E Wx → QV b H') : WT X e σ H QV :=
  (h Mx F σ H Wx p).imp fun b H' ⟨M', F', q, ex, m⟩ => k b M' F' H' q ex (p.next ex m)
theorem AJ.bind {Q : List D → Mem → Prop} (h : AJ X es st M Q E) (p : Pre X st M Mx F σ H E Wx) {QV : List V → Hp → Prop}
    (k : ∀ d M' F' v H', Q d M' → Ex F F' → RA X.K F' v d → Pre X st M' Mx F' σ H' E Wx → QV v H') : WA X es σ H QV :=
  (h Mx F σ H Wx p).imp fun v H' ⟨d, M', F', q, ex, r, m⟩ => k d M' F' v H' q ex r (p.next ex m)
theorem EJ.mono {Q Q' : DK} (h : EJ X e st M Q E) (k : ∀ d M', Q d M' → Q' d M') : EJ X e st M Q' E := fun Mx F σ H Wx p =>
  (h Mx F σ H Wx p).imp fun v H' ⟨d, M', F', q, r⟩ => ⟨d, M', F', k d M' q, r⟩
theorem TJ.mono {Q Q' : BK} (h : TJ X e st M Q E) (k : ∀ d M', Q d M' → Q' d M') : TJ X e st M Q' E := fun Mx F σ H Wx p =>
  (h Mx F σ H Wx p).imp fun v H' ⟨M', F', q, r⟩ => ⟨M', F', k v M' q, r⟩

/-! ### arguments -/
theorem aj_nil {Q : List D → Mem → Prop} (h : Q [] M) : AJ X [] st M Q E := fun Mx F σ H Wx p => WA.of pa_nil ⟨[], M, F, h, Ex.refl F, RA.nil, p.m⟩
theorem aj_cons {Q : List D → Mem → Prop} (h : EJ X e st M (fun d M1 => AJ X es st M1 (fun ds M2 => Q (d :: ds) M2) E) E)
    (hs : starEach (e :: es) X.env = (false, eval e X.env) :: starEach es X.env := by rfl) : AJ X (e :: es) st M Q E := fun Mx F σ H Wx p => by
  refine WA.of (pa_cons pe_W pa_W hs) ?_
  refine h.bind p fun d M1 F1 v H1 q1 e1 r1 p1 => ?_
  exact q1.bind p1 fun ds M2 F2 vs H2 q2 e2 r2 p2 => ⟨d :: ds, M2, F2, q2, e1.trans e2, RA.cons (r1.mono e2) r2, p2.m⟩

/-! ### names, constants -/
variable {pos : Pos} {Q : DK}
theorem ej_name (i : Nat) {x : Str} {d : D} (hN : X.N[i]? = some x) (hv : Vis X.env.scope x) (hd : st[i]? = some (some d)) (h : Q d M)
    (h1 : (x == ("__debug__" : Str)) = false := by decide) (h2 : (x == ("__classdict__" : Str)) = false := by decide) : EJ X (.Name x pos) st M Q E := fun Mx F σ H Wx p => by
  obtain ⟨v, hv', r⟩ := p.sl.2 i d hd
  exact W.of (pe_var hN hv h1 h2) ⟨v, hv', d, M, F, h, Ex.refl F, r, p.m⟩
theorem ej_int {i : Int} {j} (h : Q (.int i) M) : EJ X (.Constant (.int i) j pos) st M Q E := fun Mx F σ H Wx p => W.of pe_int ⟨_, M, F, h, Ex.refl F, .int i, p.m⟩
theorem ej_bl {b : Bool} {j} (h : Q (.bl b) M) : EJ X (.Constant (.bool b) j pos) st M Q E := fun Mx F σ H Wx p => W.of pe_bl ⟨_, M, F, h, Ex.refl F, .bl b, p.m⟩
theorem ej_non {j} (h : Q .non M) : EJ X (.Constant .none j pos) st M Q E := fun Mx F σ H Wx p => W.of pe_non ⟨_, M, F, h, Ex.refl F, .non, p.m⟩
theorem ej_str {x : Str} {j} (h : Q (.str x) M) : EJ X (.Constant (.str x) j pos) st M Q E := fun Mx F σ H Wx p => W.of pe_str ⟨_, M, F, h, Ex.refl F, .str x, p.m⟩
/-- a module's constant -/
theorem ej_glob {x : Str} {v : V} {u : Value} {d : D} (hg : Gl X x) (hm : X.mg x = some u) (r : RelV v u) (hr : ∀ F, R X.K F v d) (h : Q d M) (hd : (x == ("__debug__" : Str)) = false := by decide) : EJ X (.Name x pos) st M Q E :=
  fun Mx F σ H Wx p => W.of (pe_glob hg hm r hd) ⟨_, M, F, h, Ex.refl F, hr F, p.m⟩
/-- a built-in class -/
theorem ej_bty {x : Str} {n : String} (hg : Gl X x) (hm : X.mg x = none) (hv : bootBuiltins x = some (.type n)) (h : Q (.ty n) M) (hn : x ≠ "__name__" := by decide) (hd : (x == ("__debug__" : Str)) = false := by decide) : EJ X (.Name x pos) st M Q E :=
  fun Mx F σ H Wx p => W.of (pe_bltn (v := .ty n) hg hm hv rfl hn hd) ⟨_, M, F, h, Ex.refl F, .ty n, p.m⟩

/-! ### operations -/
variable {a b c : Expr}
theorem ej_op {op : Operator} (h : EJ X a st M (fun d1 M1 => EJ X b st M1 (fun d2 M2 => OpD X (binaryOp op) d1 d2 M2 Q) E) E) : EJ X (.BinOp a op b pos) st M Q E := fun Mx F σ H Wx p => by
  refine W.of (pe_op op_W pe_W pe_W) ?_
  refine h.bind p fun d1 M1 F1 v1 H1 q1 e1 r1 p1 => ?_
  exact q1.bind p1 fun d2 M2 F2 v2 H2 q2 e2 r2 p2 => q2 Mx F2 H2 v1 v2 _ p2.at_ (r1.mono e2) r2 fun v H' z => z.mono (e1.trans e2)
theorem ej_un {op : UnaryOp} (h : EJ X a st M (fun d1 M1 => UnD X (unaryOp op) d1 M1 Q) E) : EJ X (.UnaryOp op a pos) st M Q E := fun Mx F σ H Wx p => by
  refine W.of (pe_un un_W pe_W) ?_
  exact h.bind p fun d1 M1 F1 v1 H1 q1 e1 r1 p1 => q1 Mx F1 H1 v1 _ p1.at_ r1 fun v H' z => z.mono e1
theorem ej_cmp {op : CmpOp} (h : EJ X a st M (fun d1 M1 => EJ X b st M1 (fun d2 M2 => OpD X (compareOp op) d1 d2 M2 Q) E) E) (hm : behindInMarks op b = false) : EJ X (.Compare a [op] [b] pos) st M Q E := fun Mx F σ H Wx p => by
  refine W.of (pe_cmpR op_W pe_W pe_W hm) ?_
  refine h.bind p fun d1 M1 F1 v1 H1 q1 e1 r1 p1 => ?_
  exact q1.bind p1 fun d2 M2 F2 v2 H2 q2 e2 r2 p2 => q2 Mx F2 H2 v1 v2 _ p2.at_ (r1.mono e2) r2 fun v H' z => z.mono (e1.trans e2)
theorem tj_cmp {op : CmpOp} {Q : BK} (h : EJ X a st M (fun d1 M1 => EJ X b st M1 (fun d2 M2 => OpD X (compareOp op) d1 d2 M2 (fun d M3 => ∃ k, d = .bl k ∧ Q k M3)) E) E) (hm : behindInMarks op b = false) : TJ X (.Compare a [op] [b] pos) st M Q E := fun Mx F σ H Wx p => by
  refine WT.of (pt_cmpR op_W pe_W pe_W hm) ?_
  refine h.bind p fun d1 M1 F1 v1 H1 q1 e1 r1 p1 => ?_
  exact q1.bind p1 fun d2 M2 F2 v2 H2 q2 e2 r2 p2 => q2 Mx F2 H2 v1 v2 _ p2.at_ (r1.mono e2) r2 fun v H' ⟨d, M', F', ⟨k, ek, q⟩, ex, r, m⟩ => by
    subst ek
    cases r
    exact ⟨k, rfl, M', F', q, (e1.trans e2).trans ex, m⟩
theorem ej_chain {op op' : CmpOp} (h : EJ X a st M (fun d1 M1 => EJ X b st M1 (fun d2 M2 => OpD X (compareOp op) d1 d2 M2 (fun d M3 => ∃ k, d = .bl k ∧ if k = true then EJ X c st M3 (fun d3 M4 => OpD X (compareOp op') d2 d3 M4 Q) E else Q (.bl false) M3)) E) E) (hm : lastMarks [op, op'] [b, c] = false) : EJ X (.Compare a [op, op'] [b, c] pos) st M Q E := fun Mx F σ H Wx p => by
  refine W.of (pe_chain op_W op_W pe_W pe_W pe_W hm) ?_
  refine h.bind p fun d1 M1 F1 v1 H1 q1 e1 r1 p1 => ?_
  refine q1.bind p1 fun d2 M2 F2 v2 H2 q2 e2 r2 p2 => q2 Mx F2 H2 v1 v2 _ p2.at_ (r1.mono e2) r2 fun v H' ⟨d, M', F', ⟨k, ek, q⟩, ex, r, m⟩ => ?_
  subst ek
  cases r
  refine ⟨k, rfl, ?_⟩
  cases k with
  | true => exact EJ.bind q (p2.next ex m) fun d3 M4 F4 v3 H4 q4 e4 r4 p4 => q4 Mx F4 H4 v2 v3 _ p4.at_ ((r2.mono ex).mono e4) r4 fun v H' z => z.mono (((e1.trans e2).trans ex).trans e4)
  | false => exact ⟨_, M', F', q, (e1.trans e2).trans ex, .bl false, m⟩
theorem tj_chain {op op' : CmpOp} {Q : BK} (h : EJ X a st M (fun d1 M1 => EJ X b st M1 (fun d2 M2 => OpD X (compareOp op) d1 d2 M2 (fun d M3 => ∃ k, d = .bl k ∧ if k = true then EJ X c st M3 (fun d3 M4 => OpD X (compareOp op') d2 d3 M4 (fun d M5 => ∃ k, d = .bl k ∧ Q k M5)) E else Q false M3)) E) E) (hm : lastMarks [op, op'] [b, c] = false) : TJ X (.Compare a [op, op'] [b, c] pos) st M Q E := fun Mx F σ H Wx p => by
  refine WT.of (pt_chain op_W op_W pe_W pe_W pe_W hm) ?_
  refine h.bind p fun d1 M1 F1 v1 H1 q1 e1 r1 p1 => ?_
  refine q1.bind p1 fun d2 M2 F2 v2 H2 q2 e2 r2 p2 => q2 Mx F2 H2 v1 v2 _ p2.at_ (r1.mono e2) r2 fun v H' ⟨d, M', F', ⟨k, ek, q⟩, ex, r, m⟩ => ?_
  subst ek
  cases r
  refine ⟨k, rfl, ?_⟩
  cases k with
  | true =>
    refine EJ.bind q (p2.next ex m) fun d3 M4 F4 v3 H4 q4 e4 r4 p4 => q4 Mx F4 H4 v2 v3 _ p4.at_ ((r2.mono ex).mono e4) r4 fun v H' ⟨d, M', F', ⟨k, ek, q⟩, ex', r, m⟩ => ?_
    subst ek
    cases r
    exact ⟨k, rfl, M', F', q, ((((e1.trans e2).trans ex).trans e4).trans ex'), m⟩
  | false => exact ⟨false, rfl, M', F', q, (e1.trans e2).trans ex, m⟩

/-! ### tests -/
theorem tj_val {Q : BK} (h : EJ X e st M (fun d M1 => TrD X d M1 Q) E) (he : ∀ whole, isTrue e X.env whole = (do let v ← whole; standAt e.pos; holding [v] (truthy v))) : TJ X e st M Q E := fun Mx F σ H Wx p => by
  refine WT.of (t := fun σ H Q => W X e σ H fun x H' => rTr X x H' Q) ⟨fun pins s σ H Q I h => isTrue_plain (thn (h pins s I) fun v s1 ⟨x, H1, I1, r1, q1⟩ => q1 pins s1 σ v I1 r1) (he _)⟩ ?_
  exact h.bind p fun d1 M1 F1 v1 H1 q1 e1 r1 p1 => q1 Mx F1 H1 v1 _ p1.at_ r1 fun v H' z => z.mono e1
theorem tj_not {Q : BK} (h : TJ X a st M (fun k M1 => Q (!k) M1) E) : TJ X (.UnaryOp .Not a pos) st M Q E := fun Mx F σ H Wx p => by
  refine WT.of (pt_not pt_W) ?_
  exact h.bind p fun k M1 F1 H1 q1 e1 p1 => ⟨M1, F1, q1, e1, p1.m⟩
/-- and, or as tests -/
def TJs (X : Cx) (op : BoolOp) (es : List Expr) (pos : Pos) (st : Sls) (M : Mem) (Q : BK) (E : EK) : Prop := ∀ Mx F σ H Wx, Pre X st M Mx F σ H E Wx → ∀ (whole : Sem Value) (pins : List (Addr × Obj)) (s : Shared), Inv X pins σ H s →
  wpAny (model X.prog X.w) X.A (isTrue (.BoolOp op es pos) X.env whole) (TP X pins σ (Bst X.K Mx F Q)) X.xe s
theorem tjs_of {op : BoolOp} {Q : BK} (h : TJs X op es pos st M Q E) : TJ X (.BoolOp op es pos) st M Q E := fun Mx F σ H Wx p pins s I => h Mx F σ H Wx p _ pins s I
theorem pw_of {op : BoolOp} {F : Hp} {Q : BK} (h : TJs X op es pos st M Q E) : PW X (.BoolOp op es pos) (fun σ H QV => ∃ Mx F Wx, Pre X st M Mx F σ H E Wx ∧ ∀ b H', Bst X.K Mx F Q b H' → QV b H') :=
  ⟨fun wh pins s σ H QV I ⟨Mx, F, Wx, p, k⟩ => thn (h Mx F σ H Wx p wh pins s I) fun _ _ ⟨H', I', q⟩ => ⟨H', I', k _ H' q⟩⟩
theorem tjs_one {op : BoolOp} {Q : BK} (h : TJ X a st M Q E) : TJs X op [a] pos st M Q E := fun Mx F σ H Wx p wh pins s I => by
  cases op with
  | And => exact (pw_and1 (pt_W (X := X) (e := a))).run wh pins s σ H _ I (h Mx F σ H Wx p)
  | Or => exact (pw_or1 (pt_W (X := X) (e := a))).run wh pins s σ H _ I (h Mx F σ H Wx p)
theorem tjs_and {rest : List Expr} {Q : BK} (h : TJ X a st M (fun k M1 => if k = true then TJs X .And (b :: rest) pos st M1 Q E else Q false M1) E) : TJs X .And (a :: b :: rest) pos st M Q E := fun Mx F σ H Wx p wh pins s I => by
  refine isTrue_and (thn (h.bind p (fun k M1 F1 H1 q1 e1 p1 => (⟨M1, F1, q1, e1, p1⟩ : ∃ M1 F1, (if k = true then TJs X .And (b :: rest) pos st M1 Q E else Q false M1) ∧ Ex F F1 ∧ Pre X st M1 Mx F1 σ H1 E Wx)) pins s I) fun k s1 ⟨H1, I1, M1, F1, q1, e1, p1⟩ => ?_)
  cases k with
  | true => exact thn ((show TJs X .And (b :: rest) pos st M1 Q E from q1) Mx F1 σ H1 Wx p1 wh pins s1 I1) fun _ _ ⟨H', I', z⟩ => ⟨H', I', z.mono e1⟩
  | false => exact ⟨H1, I1, M1, F1, q1, e1, p1.m⟩
theorem tjs_or {rest : List Expr} {Q : BK} (h : TJ X a st M (fun k M1 => if k = true then Q true M1 else TJs X .Or (b :: rest) pos st M1 Q E) E) : TJs X .Or (a :: b :: rest) pos st M Q E := fun Mx F σ H Wx p wh pins s I => by
  refine isTrue_or (thn (h.bind p (fun k M1 F1 H1 q1 e1 p1 => (⟨M1, F1, q1, e1, p1⟩ : ∃ M1 F1, (if k = true then Q true M1 else TJs X .Or (b :: rest) pos st M1 Q E) ∧ Ex F F1 ∧ Pre X st M1 Mx F1 σ H1 E Wx)) pins s I) fun k s1 ⟨H1, I1, M1, F1, q1, e1, p1⟩ => ?_)
  cases k with
  | false => exact thn ((show TJs X .Or (b :: rest) pos st M1 Q E from q1) Mx F1 σ H1 Wx p1 wh pins s1 I1) fun _ _ ⟨H', I', z⟩ => ⟨H', I', z.mono e1⟩
  | true => exact ⟨H1, I1, M1, F1, q1, e1, p1.m⟩
/-- .. as values -/
theorem ej_one {op : BoolOp} (h : EJ X a st M Q E) : EJ X (.BoolOp op [a] pos) st M Q E := fun Mx F σ H Wx p => W.of (pe_one pe_W) (h Mx F σ H Wx p)
theorem ej_and {rest : List Expr} (h : EJ X a st M (fun d M1 => ∃ k, d = .bl k ∧ if k = true then EJ X (.BoolOp .And (b :: rest) pos) st M1 Q E else Q (.bl false) M1) E) : EJ X (.BoolOp .And (a :: b :: rest) pos) st M Q E := fun Mx F σ H Wx p => by
  refine W.of (pe_and pe_W pe_W) ?_
  refine h.bind p fun d1 M1 F1 v1 H1 ⟨k, ek, q1⟩ e1 r1 p1 => ?_
  subst ek
  cases r1
  refine ⟨k, rfl, ?_⟩
  cases k with
  | true => exact EJ.bind q1 p1 fun d M2 F2 v H2 q2 e2 r2 p2 => ⟨d, M2, F2, q2, e1.trans e2, r2, p2.m⟩
  | false => exact ⟨_, M1, F1, q1, e1, .bl false, p1.m⟩
theorem ej_or {rest : List Expr} (h : EJ X a st M (fun d M1 => ∃ k, d = .bl k ∧ if k = true then Q (.bl true) M1 else EJ X (.BoolOp .Or (b :: rest) pos) st M1 Q E) E) : EJ X (.BoolOp .Or (a :: b :: rest) pos) st M Q E := fun Mx F σ H Wx p => by
  refine W.of (pe_or pe_W pe_W) ?_
  refine h.bind p fun d1 M1 F1 v1 H1 ⟨k, ek, q1⟩ e1 r1 p1 => ?_
  subst ek
  cases r1
  refine ⟨k, rfl, ?_⟩
  cases k with
  | false => exact EJ.bind q1 p1 fun d M2 F2 v H2 q2 e2 r2 p2 => ⟨d, M2, F2, q2, e1.trans e2, r2, p2.m⟩
  | true => exact ⟨_, M1, F1, q1, e1, .bl true, p1.m⟩
theorem ej_not (h : EJ X a st M (fun d M1 => ∃ k, d = .bl k ∧ Q (.bl (!k)) M1) E) : EJ X (.UnaryOp .Not a pos) st M Q E := fun Mx F σ H Wx p => by
  refine W.of (pe_not pe_W) ?_
  refine h.bind p fun d1 M1 F1 v1 H1 ⟨k, ek, q1⟩ e1 r1 p1 => ?_
  subst ek
  cases r1
  exact ⟨k, rfl, _, M1, F1, q1, e1, .bl _, p1.m⟩
theorem ej_if (h : TJ X c st M (fun k M1 => if k = true then EJ X a st M1 Q E else EJ X b st M1 Q E) E) : EJ X (.IfExp c a b pos) st M Q E := fun Mx F σ H Wx p => by
  refine W.of (pe_ifExp pt_W pe_W pe_W) ?_
  refine h.bind p fun k M1 F1 H1 q1 e1 p1 => ?_
  cases k with
  | true => exact EJ.bind q1 p1 fun d M2 F2 v H2 q2 e2 r2 p2 => ⟨d, M2, F2, q2, e1.trans e2, r2, p2.m⟩
  | false => exact EJ.bind q1 p1 fun d M2 F2 v H2 q2 e2 r2 p2 => ⟨d, M2, F2, q2, e1.trans e2, r2, p2.m⟩

/-! ### displays -/
/-- (a, b, ..) -/
theorem ej_tup {x1} (h : AJ X es st M (fun ds M1 => ds.length ≤ 100000 ∧ Q (.tup ds) M1) E) : EJ X (.Tuple es x1 pos) st M Q E := fun Mx F σ H Wx p => by
  refine W.of (pe_tup pa_W) ?_
  refine h.bind p fun ds M1 F1 vs H1 ⟨hl, q1⟩ e1 r1 p1 => ⟨by rw [r1.1, sizeLine_eq]; omega, fun a ha => ?_⟩
  have r := r1.mono (Ex.new (o := .tup vs) (exBack p1.m.ex ha))
  exact ⟨_, M1, upd F1 a (.tup vs), q1, e1.trans (Ex.new (exBack p1.m.ex ha)), .tup (SqT.of upd_same) r.1 r.2, p1.m.newF ha⟩
/-- [a, b, ..], frozen -/
theorem ej_lst (h : AJ X es st M (fun ds M1 => ds.length ≤ 100000 ∧ Q (.lst ds) M1) E) : EJ X (.List es pos) st M Q E := fun Mx F σ H Wx p => by
  refine W.of (pe_lst pa_W) ?_
  refine h.bind p fun ds M1 F1 vs H1 ⟨hl, q1⟩ e1 r1 p1 => ⟨by rw [r1.1, sizeLine_eq]; omega, fun a ha => ?_⟩
  have r := r1.mono (Ex.new (o := .lst vs) (exBack p1.m.ex ha))
  exact ⟨_, M1, upd F1 a (.lst vs), q1, e1.trans (Ex.new (exBack p1.m.ex ha)), .lst upd_same r.1 r.2, p1.m.newF ha⟩
/-- [a, b, ..], owned -/
theorem ej_lstO (h : AJ X es st M (fun ds M1 => ds.length ≤ 100000 ∧ ∀ p, Q (.raw (.ref p)) ((p, .lst ds) :: M1)) E) : EJ X (.List es pos) st M Q E := fun Mx F σ H Wx p => by
  refine W.of (pe_lst pa_W) ?_
  refine h.bind p fun ds M1 F1 vs H1 ⟨hl, q1⟩ e1 r1 p1 => ⟨by rw [r1.1, sizeLine_eq]; omega, fun a ha => ?_⟩
  exact ⟨_, _, F1, q1 a, e1, .raw _, p1.m.newO ha ⟨vs, upd_same, r1⟩⟩
end
end SL

set_option maxHeartbeats 2000000
/-! Operations on data. -/
namespace SL
open PySem PySem.Spec PyProof.Rows L2 Evl

section
variable {X : Cx} {M : Mem} {Q : DK} {i j : Int} {xs ys : List D}

/-! ### ends -/
theorem pst_same {K : PySem.W.Frag} {Mx : Mem} {F H : Hp} {v : V} {d : D} (m : RelM K (M ++ Mx) F H) (r : R K F v d) (q : Q d M) : Pst K Mx F Q v H := ⟨d, M, F, q, Ex.refl F, r, m⟩
/-- a new frozen list, tuple -/
theorem pst_lst {K : PySem.W.Frag} {Mx : Mem} {F H : Hp} {vs : List V} {p : Addr} (m : RelM K (M ++ Mx) F H) (r : RA K F vs xs) (hp : H p = none) (q : Q (.lst xs) M) : Pst K Mx F Q (.ref p) (upd H p (.lst vs)) := by
  have e := Ex.new (o := .lst vs) (exBack m.ex hp)
  have r' := r.mono e
  exact ⟨_, M, _, q, e, .lst upd_same r'.1 r'.2, m.newF hp⟩
theorem pst_tup {K : PySem.W.Frag} {Mx : Mem} {F H : Hp} {vs : List V} {p : Addr} (m : RelM K (M ++ Mx) F H) (r : RA K F vs xs) (hp : H p = none) (q : Q (.tup xs) M) : Pst K Mx F Q (.ref p) (upd H p (.tup vs)) := by
  have e := Ex.new (o := .tup vs) (exBack m.ex hp)
  have r' := r.mono e
  exact ⟨_, M, _, q, e, .tup (SqT.of upd_same) r'.1 r'.2, m.newF hp⟩
theorem pst_own {K : PySem.W.Frag} {Mx : Mem} {F H : Hp} {vs : List V} {p : Addr} (m : RelM K (M ++ Mx) F H) (r : RA K F vs xs) (hp : H p = none) (q : Q (.raw (.ref p)) ((p, .lst xs) :: M)) : Pst K Mx F Q (.ref p) (upd H p (.lst vs)) :=
  ⟨_, _, F, q, Ex.refl F, .raw _, m.newO hp ⟨vs, upd_same, r⟩⟩
theorem R.list {K : PySem.W.Frag} {F H : Hp} {v : V} (r : R K F v (.lst xs)) (e : Ex F H) : ∃ a vs, v = .ref a ∧ H a = some (.lst vs) ∧ SqL K H a vs ∧ RA K F vs xs := by
  cases r with
  | @lst a vs ds h n g => exact ⟨a, vs, rfl, e _ _ h, SqL.of (e _ _ h), n, g⟩
theorem R.locked {K : PySem.W.Frag} {F H : Hp} {v : V} (r : R K F v (.fz xs)) (e : Ex F H) : ∃ a vs, v = .ref a ∧ SqL K F a vs ∧ SqL K H a vs ∧ RA K F vs xs := by
  cases r with
  | @fz a vs ds h n g => exact ⟨a, vs, rfl, h, ex_l e h, n, g⟩
theorem R.tuple {K : PySem.W.Frag} {F H : Hp} {v : V} (r : R K F v (.tup xs)) (e : Ex F H) : ∃ a vs, v = .ref a ∧ SqT K H a vs ∧ RA K F vs xs := by
  cases r with
  | @tup a vs ds h n g => exact ⟨a, vs, rfl, ex_t e h, n, g⟩

/-! ### ints -/
theorem od_add (h : Q (.int (i + j)) M) : OpD X (binaryOp .Add) (.int i) (.int j) M Q := fun Mx F H v1 v2 QV p r1 r2 k => by
  cases r1; cases r2; exact rOp.of op_add ⟨i, j, rfl, rfl, k _ _ (pst_same p.m (.int _) h)⟩
theorem od_sub (h : Q (.int (i - j)) M) : OpD X (binaryOp .Sub) (.int i) (.int j) M Q := fun Mx F H v1 v2 QV p r1 r2 k => by
  cases r1; cases r2; exact rOp.of op_sub ⟨i, j, rfl, rfl, k _ _ (pst_same p.m (.int _) h)⟩
theorem od_mul (hc : CMulX i j) (h : Q (.int (i * j)) M) : OpD X (binaryOp .Mult) (.int i) (.int j) M Q := fun Mx F H v1 v2 QV p r1 r2 k => by
  cases r1; cases r2; exact rOp.of op_mulX ⟨i, j, rfl, rfl, hc, k _ _ (pst_same p.m (.int _) h)⟩
/-- a quotient that is reckoned at once -/
def DivOk (i j : Int) : Prop := 0 < j ∧ Builtin.divisionGoesByPylong i j = false
theorem op_fdivX : OpR X (binaryOp .FloorDiv) (rI DivOk fun i j => .int (i / j)) := opI fun i j _ _ _ _ _ hc q => by
  have h1 : (0 : Int) < j := hc.1
  exact floordiv_int (by omega) (by rw [Int.fdiv_eq_ediv_of_nonneg i (by omega)]; exact q) (.inl hc.2)
theorem od_div (hc : DivOk i j) (h : Q (.int (i / j)) M) : OpD X (binaryOp .FloorDiv) (.int i) (.int j) M Q := fun Mx F H v1 v2 QV p r1 r2 k => by
  cases r1; cases r2; exact rOp.of op_fdivX ⟨i, j, rfl, rfl, hc, k _ _ (pst_same p.m (.int _) h)⟩
theorem od_mod (hc : 0 < j) (h : Q (.int (i % j)) M) : OpD X (binaryOp .Mod) (.int i) (.int j) M Q := fun Mx F H v1 v2 QV p r1 r2 k => by
  cases r1; cases r2; exact rOp.of op_mod ⟨i, j, rfl, rfl, hc, k _ _ (pst_same p.m (.int _) h)⟩
theorem od_pow (hc : CPow i j) (h : Q (.int (i ^ j.toNat)) M) : OpD X (binaryOp .Pow) (.int i) (.int j) M Q := fun Mx F H v1 v2 QV p r1 r2 k => by
  cases r1; cases r2; exact rOp.of op_pow ⟨i, j, rfl, rfl, hc, k _ _ (pst_same p.m (.int _) h)⟩
theorem ud_neg (h : Q (.int (-i)) M) : UnD X (unaryOp .USub) (.int i) M Q := fun Mx F H v1 QV p r1 k => by
  cases r1; exact rUn.of un_neg ⟨i, rfl, k _ _ (pst_same p.m (.int _) h)⟩
theorem od_lt (h : Q (.bl (decide (i < j))) M) : OpD X (compareOp .Lt) (.int i) (.int j) M Q := fun Mx F H v1 v2 QV p r1 r2 k => by
  cases r1; cases r2; exact rOp.of op_lt ⟨i, j, rfl, rfl, k _ _ (pst_same p.m (.bl _) h)⟩
theorem od_le (h : Q (.bl (decide (i ≤ j))) M) : OpD X (compareOp .LtE) (.int i) (.int j) M Q := fun Mx F H v1 v2 QV p r1 r2 k => by
  cases r1; cases r2; exact rOp.of op_le ⟨i, j, rfl, rfl, k _ _ (pst_same p.m (.bl _) h)⟩
theorem od_gt (h : Q (.bl (decide (j < i))) M) : OpD X (compareOp .Gt) (.int i) (.int j) M Q := fun Mx F H v1 v2 QV p r1 r2 k => by
  cases r1; cases r2; exact rOp.of op_gt ⟨i, j, rfl, rfl, k _ _ (pst_same p.m (.bl _) h)⟩
theorem od_ge (h : Q (.bl (decide (j ≤ i))) M) : OpD X (compareOp .GtE) (.int i) (.int j) M Q := fun Mx F H v1 v2 QV p r1 r2 k => by
  cases r1; cases r2; exact rOp.of op_ge ⟨i, j, rfl, rfl, k _ _ (pst_same p.m (.bl _) h)⟩
theorem od_eqI (h : Q (.bl (decide (i = j))) M) : OpD X (compareOp .Eq) (.int i) (.int j) M Q := fun Mx F H v1 v2 QV p r1 r2 k => by
  cases r1; cases r2
  refine rOp.of op_eq ⟨rfl, k _ _ (pst_same p.m (.bl _) ?_)⟩
  rw [dec_int, Bool.beq_eq_decide_eq]
  exact h
theorem od_neI (h : Q (.bl (!decide (i = j))) M) : OpD X (compareOp .NotEq) (.int i) (.int j) M Q := fun Mx F H v1 v2 QV p r1 r2 k => by
  cases r1; cases r2
  refine rOp.of op_ne ⟨rfl, k _ _ (pst_same p.m (.bl _) ?_)⟩
  rw [dec_int, Bool.beq_eq_decide_eq]
  exact h
theorem od_eqS {x y : Str} (h : Q (.bl (decide (x = y))) M) : OpD X (compareOp .Eq) (.str x) (.str y) M Q := fun Mx F H v1 v2 QV p r1 r2 k => by
  cases r1; cases r2
  refine rOp.of op_eq ⟨rfl, k _ _ (pst_same p.m (.bl _) ?_)⟩
  rw [dec_str, Bool.beq_eq_decide_eq]
  exact h
/-! ### None -/
def D.isNon : D → Bool
  | .non => true
  | _ => false
theorem R.isNon {K : PySem.W.Frag} {F : Hp} {v : V} {d : D} (r : R K F v d) (h : ∀ v, d ≠ .raw v) : decide (v = .non) = d.isNon := by
  cases r with
  | raw v => exact absurd rfl (h v)
  | non => rfl
  | _ => exact decide_eq_false (fun z => nomatch z)
theorem od_isN {d : D} (hd : ∀ v, d ≠ .raw v) (h : Q (.bl d.isNon) M) : OpD X (compareOp .Is) d .non M Q := fun Mx F H v1 v2 QV p r1 r2 k => by
  cases r2
  refine rOp.of op_isN ⟨rfl, k _ _ (pst_same p.m (.bl _) ?_)⟩
  rw [r1.isNon hd]
  exact h
theorem od_notN {d : D} (hd : ∀ v, d ≠ .raw v) (h : Q (.bl (!d.isNon)) M) : OpD X (compareOp .IsNot) d .non M Q := fun Mx F H v1 v2 QV p r1 r2 k => by
  cases r2
  refine rOp.of op_notN ⟨rfl, k _ _ (pst_same p.m (.bl _) ?_)⟩
  rw [r1.isNon hd]
  exact h

/-! ### + on tuples, lists -/
theorem od_catT (hl : xs.length + ys.length ≤ 1000000) (h : Q (.tup (xs ++ ys)) M) : OpD X (binaryOp .Add) (.tup xs) (.tup ys) M Q := fun Mx F H v1 v2 QV p r1 r2 k => by
  obtain ⟨a, vs, rfl, h1, a1⟩ := r1.tuple p.m.ex
  obtain ⟨b, ws, rfl, h2, a2⟩ := r2.tuple p.m.ex
  have l1 := a1.1
  have l2 := a2.1
  refine rOp.of op_catA ⟨a, b, vs, ws, rfl, rfl, h1, h2, by rw [sizeLine_eq]; omega, fun e => k _ _ (pst_same p.m ?_ h), fun _ e => k _ _ (pst_same p.m ?_ h), fun _ _ q hq => k _ _ (pst_tup p.m (a1.append a2) hq h)⟩
  · subst e
    have : xs = [] := List.eq_nil_of_length_eq_zero (by simpa using l1.symm)
    subst this
    exact r2
  · subst e
    have : ys = [] := List.eq_nil_of_length_eq_zero (by simpa using l2.symm)
    subst this
    simpa using r1
/-- list + list, either frozen or locked -/
theorem op_catR : OpR X (binaryOp .Add) (fun x y H Q => ∃ l b xs zs, x = .ref l ∧ y = .ref b ∧ SqL X.K H l xs ∧ SqL X.K H b zs ∧ xs.length + zs.length ≤ sizeLine ∧ ∀ p, H p = none → Q (.ref p) (upd H p (.lst (xs ++ zs)))) := by
  intro pins s σ H x y v u Q I rx ry h
  obtain ⟨l, b, xs, zs, rfl, rfl, hH, hB, hz, q⟩ := h
  cases rx
  cases ry
  obtain ⟨its, r, pl, z⟩ := I.list hH
  obtain ⟨its2, r2, pl2, z2⟩ := I.list hB
  obtain ⟨⟨cls, dd, data, sl⟩, ho, hc, n, hd⟩ := id pl.isList
  obtain ⟨⟨cls2, dd2, data2, sl2⟩, ho2, hc2, n2, hd2⟩ := id pl2.isList
  simp only at hc hd hc2 hd2
  subst hc hd hc2 hd2
  have hl := r.length
  have hl2 := r2.length
  have ea : its.toArray ++ its2.toArray = (its ++ its2).toArray := by simp
  refine concat_meets ⟨_, ho, rfl⟩ ⟨_, ho2, rfl⟩ noFill_list_add seq_list_add PySem.F.slot_list_add PySem.F.entry_list_add (PySem.F.args_list_add_2 _ _)
    (list_addW l b its.toArray its2.toArray n n2 dd dd2 sl sl2 (by rw [List.size_toArray, List.size_toArray]; omega)) ⟨ho, ho2, ?_⟩
  rw [ea]
  exact ⟨.ref _, _, I.lnew (t' := s.toks) (r.append r2) (by rw [List.length_append]; omega), rfl, q _ I.fresh⟩
theorem od_catL (hl : xs.length + ys.length ≤ 1000000) (h : Q (.lst (xs ++ ys)) M) : OpD X (binaryOp .Add) (.lst xs) (.lst ys) M Q := fun Mx F H v1 v2 QV p r1 r2 k => by
  obtain ⟨a, vs, rfl, h1, _, a1⟩ := r1.list p.m.ex
  obtain ⟨b, ws, rfl, h2, _, a2⟩ := r2.list p.m.ex
  have l1 := a1.1
  have l2 := a2.1
  exact rOp.of op_catR ⟨a, b, vs, ws, rfl, rfl, SqL.of h1, SqL.of h2, by rw [sizeLine_eq]; omega, fun q hq => k _ _ (pst_lst p.m (a1.append a2) hq h)⟩
theorem od_catLO (hl : xs.length + ys.length ≤ 1000000) (h : ∀ p, Q (.raw (.ref p)) ((p, .lst (xs ++ ys)) :: M)) : OpD X (binaryOp .Add) (.lst xs) (.lst ys) M Q := fun Mx F H v1 v2 QV p r1 r2 k => by
  obtain ⟨a, vs, rfl, h1, _, a1⟩ := r1.list p.m.ex
  obtain ⟨b, ws, rfl, h2, _, a2⟩ := r2.list p.m.ex
  have l1 := a1.1
  have l2 := a2.1
  exact rOp.of op_catR ⟨a, b, vs, ws, rfl, rfl, SqL.of h1, SqL.of h2, by rw [sizeLine_eq]; omega, fun q hq => k _ _ (pst_own p.m (a1.append a2) hq (h q))⟩
theorem od_catFL (hl : xs.length + ys.length ≤ 1000000) (h : Q (.lst (xs ++ ys)) M) : OpD X (binaryOp .Add) (.fz xs) (.lst ys) M Q := fun Mx F H v1 v2 QV p r1 r2 k => by
  obtain ⟨a, vs, rfl, _, h1, a1⟩ := r1.locked p.m.ex
  obtain ⟨b, ws, rfl, h2, _, a2⟩ := r2.list p.m.ex
  have l1 := a1.1
  have l2 := a2.1
  exact rOp.of op_catR ⟨a, b, vs, ws, rfl, rfl, h1, SqL.of h2, by rw [sizeLine_eq]; omega, fun q hq => k _ _ (pst_lst p.m (a1.append a2) hq h)⟩
/-- list * int -/
theorem od_repL (hk : -1000000 ≤ j ∧ j ≤ 1000000) (hl : xs.length * j.toNat ≤ 1000000) (h : Q (.lst (List.replicate j.toNat xs).flatten) M) : OpD X (binaryOp .Mult) (.lst xs) (.int j) M Q := fun Mx F H v1 v2 QV p r1 r2 k => by
  obtain ⟨a, vs, rfl, h1, _, a1⟩ := r1.list p.m.ex
  cases r2
  have l1 := a1.1
  exact rOp.of op_rep ⟨a, j, vs, rfl, rfl, h1, by omega, by omega, by rw [sizeLine_eq, l1]; omega, fun q hq => k _ _ (pst_lst p.m (a1.repl _) hq h)⟩
theorem od_repLO (hk : -1000000 ≤ j ∧ j ≤ 1000000) (hl : xs.length * j.toNat ≤ 1000000) (h : ∀ p, Q (.raw (.ref p)) ((p, .lst (List.replicate j.toNat xs).flatten) :: M)) : OpD X (binaryOp .Mult) (.lst xs) (.int j) M Q := fun Mx F H v1 v2 QV p r1 r2 k => by
  obtain ⟨a, vs, rfl, h1, _, a1⟩ := r1.list p.m.ex
  cases r2
  have l1 := a1.1
  exact rOp.of op_rep ⟨a, j, vs, rfl, rfl, h1, by omega, by omega, by rw [sizeLine_eq, l1]; omega, fun q hq => k _ _ (pst_own p.m (a1.repl _) hq (h q))⟩
end
end SL

set_option maxHeartbeats 2000000
/-! Equality of data; places, slices; built-in calls and methods. -/
namespace SL
open PySem PySem.Spec PyProof.Rows L2 Evl

/-! ### data as the library tells it -/
mutual
def D.py : D → PyData
  | .non => .none
  | .bl b => .bool b
  | .int i => .int i
  | .str x => .str x
  | .lst ds => .list (D.pys ds)
  | .fz ds => .list (D.pys ds)
  | .tup ds => .tuple (D.pys ds)
  | _ => .none
def D.pys : List D → List PyData
  | [] => []
  | d :: ds => D.py d :: D.pys ds
end
/-! plain, at most n deep -/
mutual
def D.ok : D → Nat → Bool
  | .non, _ => true
  | .bl _, _ => true
  | .int _, _ => true
  | .str x, _ => PySem.PyData.canLay0 (.str x)
  | .lst ds, n => decide (0 < n) && D.oks ds (n - 1)
  | .fz ds, n => decide (0 < n) && D.oks ds (n - 1)
  | .tup ds, n => decide (0 < n) && D.oks ds (n - 1)
  | _, _ => false
def D.oks : List D → Nat → Bool
  | [], _ => true
  | d :: ds, n => D.ok d n && D.oks ds n
end
mutual
theorem dp_of {K : PySem.W.Frag} {F H : Hp} (e : Ex F H) : ∀ (d : D) (n : Nat) (v : V), D.ok d n = true → R K F v d → Dp K H v d.py
  | .non, _, _, _, r => by cases r; exact .non
  | .bl b, _, _, _, r => by cases r; exact .bl b
  | .int b, _, _, _, r => by cases r; exact .int b
  | .str b, _, _, _, r => by cases r; exact .str b
  | .lst ds, n, _, h, r => by
    cases r with
    | lst h1 h2 h3 =>
      simp only [D.ok, Bool.and_eq_true] at h
      exact .lst (SqL.of (e _ _ h1)) (dps_of e ds _ _ h.2 ⟨h2, h3⟩)
  | .fz ds, n, _, h, r => by
    cases r with
    | @fz a vs ds h1 h2 h3 =>
      simp only [D.ok, Bool.and_eq_true] at h
      exact .lst (ex_l e h1) (dps_of e ds _ _ h.2 ⟨h2, h3⟩)
  | .tup ds, n, _, h, r => by
    cases r with
    | tup h1 h2 h3 =>
      simp only [D.ok, Bool.and_eq_true] at h
      exact .tup (ex_t e h1) (dps_of e ds _ _ h.2 ⟨h2, h3⟩)
  | .ty _, _, _, h, _ => by simp [D.ok] at h
  | .dct _, _, _, h, _ => by simp [D.ok] at h
  | .ins _ _, _, _, h, _ => by simp [D.ok] at h
  | .raw _, _, _, h, _ => by simp [D.ok] at h
theorem dps_of {K : PySem.W.Frag} {F H : Hp} (e : Ex F H) : ∀ (ds : List D) (n : Nat) (vs : List V), D.oks ds n = true → RA K F vs ds → DpAll K H vs (D.pys ds)
  | [], _, _, _, r => by
    have := r.nil_of
    subst this
    exact .nil
  | d :: ds, n, _, h, r => by
    obtain ⟨v, ws, rfl, r1, r2⟩ := r.uncons
    simp only [D.oks, Bool.and_eq_true] at h
    exact .cons (dp_of e d n v h.1 r1) (dps_of e ds n ws h.2 r2)
end
mutual
theorem lay_of : ∀ (d : D) (n : Nat), D.ok d n = true → d.py.canLay0 = true ∧ d.py.depth ≤ n
  | .non, n, _ => ⟨rfl, Nat.zero_le _⟩
  | .bl _, n, _ => ⟨rfl, Nat.zero_le _⟩
  | .int _, n, _ => ⟨rfl, Nat.zero_le _⟩
  | .str x, n, h => ⟨by simpa [D.ok, D.py] using h, Nat.zero_le _⟩
  | .lst ds, n, h => by
    simp only [D.ok, Bool.and_eq_true, decide_eq_true_eq] at h
    obtain ⟨h1, h2⟩ := lays_of ds _ h.2
    exact ⟨by simpa [D.py, PyData.canLay0] using h1, by simp only [D.py, PyData.depth]; omega⟩
  | .fz ds, n, h => by
    simp only [D.ok, Bool.and_eq_true, decide_eq_true_eq] at h
    obtain ⟨h1, h2⟩ := lays_of ds _ h.2
    exact ⟨by simpa [D.py, PyData.canLay0] using h1, by simp only [D.py, PyData.depth]; omega⟩
  | .tup ds, n, h => by
    simp only [D.ok, Bool.and_eq_true, decide_eq_true_eq] at h
    obtain ⟨h1, h2⟩ := lays_of ds _ h.2
    exact ⟨by simpa [D.py, PyData.canLay0] using h1, by simp only [D.py, PyData.depth]; omega⟩
  | .ty _, _, h => by simp [D.ok] at h
  | .dct _, _, h => by simp [D.ok] at h
  | .ins _ _, _, h => by simp [D.ok] at h
  | .raw _, _, h => by simp [D.ok] at h
theorem lays_of : ∀ (ds : List D) (n : Nat), D.oks ds n = true → PyData.canLayAll0 (D.pys ds) = true ∧ PyData.depthAll (D.pys ds) ≤ n
  | [], n, _ => ⟨rfl, Nat.zero_le _⟩
  | d :: ds, n, h => by
    simp only [D.oks, Bool.and_eq_true] at h
    obtain ⟨h1, h2⟩ := lay_of d n h.1
    obtain ⟨h3, h4⟩ := lays_of ds n h.2
    exact ⟨by simp [D.pys, PyData.canLayAll0, h1, h3], by simp only [D.pys, PyData.depthAll]; omega⟩
end
theorem shp_of {d : D} (h : d.ok 64 = true) : SeqAt.shaped d.py = true := by
  obtain ⟨h1, h2⟩ := lay_of d 64 h
  unfold SeqAt.shaped
  rw [h1, decide_eq_true h2]
  rfl
/-- == -/
def D.eqv (a b : D) : Bool := PyData.eqv a.py b.py
mutual
theorem eqv_refl : ∀ (d : D) (n : Nat), D.ok d n = true → PyData.eqv d.py d.py = true
  | .non, n, _ => rfl
  | .bl b, n, _ => by simp [D.py, PyData.eqv]
  | .int b, n, _ => by simp [D.py, PyData.eqv]
  | .str x, n, h => by simp [D.py, PyData.eqv]
  | .lst ds, n, h => by
    simp only [D.ok, Bool.and_eq_true, decide_eq_true_eq] at h
    simpa [D.py, PyData.eqv] using eqvs_refl ds _ h.2
  | .fz ds, n, h => by
    simp only [D.ok, Bool.and_eq_true, decide_eq_true_eq] at h
    simpa [D.py, PyData.eqv] using eqvs_refl ds _ h.2
  | .tup ds, n, h => by
    simp only [D.ok, Bool.and_eq_true, decide_eq_true_eq] at h
    simpa [D.py, PyData.eqv] using eqvs_refl ds _ h.2
  | .ty _, _, h => by simp [D.ok] at h
  | .dct _, _, h => by simp [D.ok] at h
  | .ins _ _, _, h => by simp [D.ok] at h
  | .raw _, _, h => by simp [D.ok] at h
theorem eqvs_refl : ∀ (ds : List D) (n : Nat), D.oks ds n = true → PyData.eqvAll (D.pys ds) (D.pys ds) = true
  | [], n, _ => rfl
  | d :: ds, n, h => by
    simp only [D.oks, Bool.and_eq_true] at h
    simp [D.pys, PyData.eqvAll, eqv_refl d n h.1, eqvs_refl ds n h.2]
end
theorem D.eqv_self {d : D} (h : d.ok 64 = true) : d.eqv d = true := eqv_refl d 64 h
theorem pys_ints (ns : List Int) : D.pys (ns.map D.int) = ns.map PyData.int := by
  induction ns with
  | nil => rfl
  | cons n ns ih => simp [D.pys, D.py, ih]
theorem oks_ints (ns : List Int) (n : Nat) : D.oks (ns.map D.int) n = true := by
  induction ns with
  | nil => rfl
  | cons n ns ih => simp [D.oks, D.ok, ih]
theorem eqvAll_ints : ∀ ns ms : List Int, PyData.eqvAll (ns.map PyData.int) (ms.map PyData.int) = decide (ns = ms)
  | [], [] => by simp [PyData.eqvAll]
  | [], _ :: _ => by simp [PyData.eqvAll]
  | _ :: _, [] => by simp [PyData.eqvAll]
  | a :: ns, b :: ms => by
    simp only [List.map_cons, PyData.eqvAll, PyData.eqv, eqvAll_ints ns ms]
    by_cases h : a = b
    · subst h; simp
    · simp [h]
theorem eqv_lst_ints (ns ms : List Int) : D.eqv (.lst (ns.map .int)) (.lst (ms.map .int)) = decide (ns = ms) := by
  simp only [D.eqv, D.py, pys_ints, PyData.eqv, eqvAll_ints]
theorem eqv_tup_ints (ns ms : List Int) : D.eqv (.tup (ns.map .int)) (.tup (ms.map .int)) = decide (ns = ms) := by
  simp only [D.eqv, D.py, pys_ints, PyData.eqv, eqvAll_ints]

section
variable {X : Cx} {M : Mem} {Q : DK} {i j : Int} {xs ys : List D} {d e : D}
theorem od_eq (h1 : d.ok 64 = true) (h2 : e.ok 64 = true) (h : Q (.bl (d.eqv e)) M) : OpD X (compareOp .Eq) d e M Q := fun Mx F H v1 v2 QV p r1 r2 k =>
  rOp.of (op_eqD p.un) ⟨d.py, e.py, dp_of p.m.ex d 64 v1 h1 r1, dp_of p.m.ex e 64 v2 h2 r2, shp_of h1, shp_of h2, k _ _ (pst_same p.m (.bl _) h)⟩
theorem od_ne (h1 : d.ok 64 = true) (h2 : e.ok 64 = true) (h : Q (.bl (!d.eqv e)) M) : OpD X (compareOp .NotEq) d e M Q := fun Mx F H v1 v2 QV p r1 r2 k =>
  rOp.of (op_neD p.un) ⟨d.py, e.py, dp_of p.m.ex d 64 v1 h1 r1, dp_of p.m.ex e 64 v2 h2 r2, shp_of h1, shp_of h2, k _ _ (pst_same p.m (.bl _) h)⟩

/-! ### places -/
variable {a b : Expr} {pos : Pos} {st : Sls} {E : EK}
theorem ra_atI {K : PySem.W.Frag} {F : Hp} {vs : List V} (r : RA K F vs xs) (h : atI xs i = some d) : ∃ v, atI vs i = some v ∧ R K F v d := by
  unfold atI at h ⊢
  rw [r.1]
  cases q : ixN xs.length i with
  | none => rw [q] at h; cases h
  | some j =>
    rw [q] at h
    exact r.get h
/-- what stands at a place -/
def IxD (X : Cx) (d1 d2 : D) (M : Mem) (Q : DK) : Prop := ∀ Mx F H v1 v2 (QV : VK), At X M Mx F H → R X.K F v1 d1 → R X.K F v2 d2 → (∀ v H', Pst X.K Mx F Q v H' → QV v H') → rIx X.K v1 v2 H QV
theorem ej_ix (h : EJ X a st M (fun d1 M1 => EJ X b st M1 (fun d2 M2 => IxD X d1 d2 M2 Q) E) E) (hs : PlainIx b) : EJ X (.Subscript a b pos) st M Q E := fun Mx F σ H Wx p => by
  refine W.of (pe_ix ix_seq pe_W pe_W hs) ?_
  refine h.bind p fun d1 M1 F1 v1 H1 q1 e1 r1 p1 => ?_
  exact q1.bind p1 fun d2 M2 F2 v2 H2 q2 e2 r2 p2 => q2 Mx F2 H2 v1 v2 _ p2.at_ (r1.mono e2) r2 fun v H' z => z.mono (e1.trans e2)
theorem id_lst (h : atI xs i = some d) (q : Q d M) : IxD X (.lst xs) (.int i) M Q := fun Mx F H v1 v2 QV p r1 r2 k => by
  obtain ⟨a, vs, rfl, _, h1, a1⟩ := r1.list p.m.ex
  cases r2
  obtain ⟨v, hv, r⟩ := ra_atI a1 h
  exact .inl ⟨a, vs, i, v, rfl, rfl, h1, hv, k _ _ (pst_same p.m r q)⟩
theorem id_fz (h : atI xs i = some d) (q : Q d M) : IxD X (.fz xs) (.int i) M Q := fun Mx F H v1 v2 QV p r1 r2 k => by
  obtain ⟨a, vs, rfl, _, h1, a1⟩ := r1.locked p.m.ex
  cases r2
  obtain ⟨v, hv, r⟩ := ra_atI a1 h
  exact .inl ⟨a, vs, i, v, rfl, rfl, h1, hv, k _ _ (pst_same p.m r q)⟩
theorem id_tup (h : atI xs i = some d) (q : Q d M) : IxD X (.tup xs) (.int i) M Q := fun Mx F H v1 v2 QV p r1 r2 k => by
  obtain ⟨a, vs, rfl, h1, a1⟩ := r1.tuple p.m.ex
  cases r2
  obtain ⟨v, hv, r⟩ := ra_atI a1 h
  exact .inr (.inl ⟨a, vs, i, v, rfl, rfl, h1, hv, k _ _ (pst_same p.m r q)⟩)
/-- of an owned list -/
theorem id_own (n : Nat) {l : Addr} (hn : M[n]? = some (l, .lst xs)) (h : atI xs i = some d) (q : Q d M) : IxD X (.raw (.ref l)) (.int i) M Q := fun Mx F H v1 v2 QV p r1 r2 k => by
  cases r1
  cases r2
  have hm : (l, MO.lst xs) ∈ M ++ Mx := List.mem_append_left _ (List.mem_of_getElem? hn)
  obtain ⟨_, vs, e, a1⟩ := p.m.own _ hm
  obtain ⟨v, hv, r⟩ := ra_atI a1 h
  exact .inl ⟨l, vs, i, v, rfl, rfl, SqL.of e, hv, k _ _ (pst_same p.m r q)⟩

/-! ### slices -/
def cutD (xs : List D) (lo hi : Option Int) : List D := (xs.drop (HT.sIx xs.length 0 lo)).take (HT.sIx xs.length xs.length hi - HT.sIx xs.length 0 lo)
theorem ra_cut {K : PySem.W.Frag} {F : Hp} {vs : List V} (r : RA K F vs xs) (lo hi : Option Int) : RA K F (cutV vs lo hi) (cutD xs lo hi) := by
  unfold cutV cutD
  rw [r.1]
  exact (r.drop _).take _
/-- a part of a slice -/
def OJ (X : Cx) (e : Option Expr) (st : Sls) (M : Mem) (Q : Option Int → Mem → Prop) (E : EK) : Prop := match e with
  | none => Q none M
  | some e => EJ X e st M (fun d M1 => ∃ i, d = .int i ∧ Q (some i) M1) E
def SlD (X : Cx) (d : D) (lo hi : Option Int) (M : Mem) (Q : DK) : Prop := ∀ Mx F H v (QV : VK), At X M Mx F H → R X.K F v d → (∀ v H', Pst X.K Mx F Q v H' → QV v H') → rSlL X.K v lo hi H QV ∨ rSlA X.K v lo hi H QV
def WO (X : Cx) (e : Option Expr) : TO := match e with
  | none => tNoPart
  | some e => tPart (W X e)
theorem po_W {o : Option Expr} : PO X o (WO X o) := by
  cases o with
  | none => exact po_none
  | some e => exact po_some pe_W
theorem OJ.bind {o : Option Expr} {QO : Option Int → Mem → Prop} {Mx : Mem} {F H : Hp} {σ : L2.St} {Wx : WX} (h : OJ X o st M QO E) (p : Pre X st M Mx F σ H E Wx) {QV : Option Int → Hp → Prop}
    (k : ∀ d M' F' H', QO d M' → Ex F F' → Pre X st M' Mx F' σ H' E Wx → QV d H') : WO X o σ H QV := by
  cases o with
  | none => exact k none M F H h (Ex.refl F) p
  | some e =>
    refine EJ.bind h p fun d M1 F1 v H1 ⟨i, ei, q⟩ e1 r1 p1 => ?_
    subst ei
    cases r1
    exact ⟨i, rfl, k (some i) M1 F1 H1 q e1 p1⟩
theorem ej_slice {lo hi : Option Expr} {p2 : Pos} (h : EJ X a st M (fun d M1 => OJ X lo st M1 (fun l M2 => OJ X hi st M2 (fun u M3 => SlD X d l u M3 Q) E) E) E) : EJ X (.Subscript a (.Slice lo hi none p2) pos) st M Q E := fun Mx F σ H Wx p => by
  refine W.of (pe_slice (sl_list.or sl_tupA) pe_W po_W po_W) ?_
  refine h.bind p fun d1 M1 F1 v1 H1 q1 e1 r1 p1 => ?_
  refine OJ.bind q1 p1 fun l M2 F2 H2 q2 e2 p2 => ?_
  exact OJ.bind q2 p2 fun u M3 F3 H3 q3 e3 p3 => q3 Mx F3 H3 v1 _ p3.at_ ((r1.mono e2).mono e3) fun v H' z => z.mono ((e1.trans e2).trans e3)
theorem sd_lst {lo hi : Option Int} (q : Q (.lst (cutD xs lo hi)) M) : SlD X (.lst xs) lo hi M Q := fun Mx F H v QV p r1 k => by
  obtain ⟨a, vs, rfl, _, h1, a1⟩ := r1.list p.m.ex
  exact .inl ⟨a, vs, rfl, h1, fun b hb => k _ _ (pst_lst p.m (ra_cut a1 lo hi) hb q)⟩
theorem sd_fz {lo hi : Option Int} (q : Q (.lst (cutD xs lo hi)) M) : SlD X (.fz xs) lo hi M Q := fun Mx F H v QV p r1 k => by
  obtain ⟨a, vs, rfl, _, h1, a1⟩ := r1.locked p.m.ex
  exact .inl ⟨a, vs, rfl, h1, fun b hb => k _ _ (pst_lst p.m (ra_cut a1 lo hi) hb q)⟩
theorem sd_lstO {lo hi : Option Int} (q : ∀ p, Q (.raw (.ref p)) ((p, .lst (cutD xs lo hi)) :: M)) : SlD X (.lst xs) lo hi M Q := fun Mx F H v QV p r1 k => by
  obtain ⟨a, vs, rfl, _, h1, a1⟩ := r1.list p.m.ex
  exact .inl ⟨a, vs, rfl, h1, fun b hb => k _ _ (pst_own p.m (ra_cut a1 lo hi) hb (q b))⟩
theorem sd_own (n : Nat) {l : Addr} {lo hi : Option Int} (hn : M[n]? = some (l, .lst xs)) (q : Q (.lst (cutD xs lo hi)) M) : SlD X (.raw (.ref l)) lo hi M Q := fun Mx F H v QV p r1 k => by
  cases r1
  have hm : (l, MO.lst xs) ∈ M ++ Mx := List.mem_append_left _ (List.mem_of_getElem? hn)
  obtain ⟨_, vs, e, a1⟩ := p.m.own _ hm
  exact .inl ⟨l, vs, rfl, SqL.of e, fun b hb => k _ _ (pst_lst p.m (ra_cut a1 lo hi) hb q)⟩
theorem sd_tup {lo hi : Option Int} (q : Q (.tup (cutD xs lo hi)) M) : SlD X (.tup xs) lo hi M Q := fun Mx F H v QV p r1 k => by
  obtain ⟨a, vs, rfl, h1, a1⟩ := r1.tuple p.m.ex
  refine .inr ⟨a, vs, rfl, h1, fun hw => k _ _ (pst_same p.m ?_ q), fun _ b hb => k _ _ (pst_tup p.m (ra_cut a1 lo hi) hb q)⟩
  have e : cutD xs lo hi = xs := by
    unfold cutD
    rw [← a1.1, hw.1, hw.2, List.drop_zero, Nat.sub_zero, a1.1, List.take_length]
  rw [e]
  exact r1

/-! ### calls of built-ins -/
variable {es : List Expr} {x : Str} {p1 : Pos}
theorem ej_callB {id : String} (h : AJ X (a :: es) st M (fun ds M1 => ClD X (.builtin id) ds M1 Q) E) (hg : Gl X x) (hm : X.mg x = none) (hv : bootBuiltins x = some (.builtin id)) (hn : x ≠ "__name__" := by decide) (hdb : (x == ("__debug__" : Str)) = false := by decide)
    (he : starEach (a :: es) X.env = (false, eval a X.env) :: starEach es X.env := by rfl) (hpl : (backTo pos (starEach es X.env)).any (·.1) = false := by rfl) : EJ X (.Call (.Name x p1) (a :: es) [] pos) st M Q E := fun Mx F σ H Wx p => by
  refine W.of (pe_callB cl_W hg hm hv pa_W hn hdb he hpl) ?_
  exact h.bind p fun ds M1 F1 vs H1 q1 e1 r1 p1 => q1 Mx F1 H1 vs _ p1.at_ r1 fun v H' z => z.mono e1
theorem ej_callTy {T : String} (h : AJ X (a :: es) st M (fun ds M1 => ClD X (.type T) ds M1 Q) E) (hg : Gl X x) (hm : X.mg x = none) (hv : bootBuiltins x = some (.type T)) (hn : x ≠ "__name__" := by decide) (hdb : (x == ("__debug__" : Str)) = false := by decide)
    (he : starEach (a :: es) X.env = (false, eval a X.env) :: starEach es X.env := by rfl) (hpl : (backTo pos (starEach es X.env)).any (·.1) = false := by rfl) : EJ X (.Call (.Name x p1) (a :: es) [] pos) st M Q E := fun Mx F σ H Wx p => by
  refine W.of (pe_callTy cl_W hg hm hv pa_W hn hdb he hpl) ?_
  exact h.bind p fun ds M1 F1 vs H1 q1 e1 r1 p1 => q1 Mx F1 H1 vs _ p1.at_ r1 fun v H' z => z.mono e1
theorem ra1 {K : PySem.W.Frag} {F : Hp} {vs : List V} (r : RA K F vs [d]) : ∃ v, vs = [v] ∧ R K F v d := by
  obtain ⟨v, ws, rfl, h1, h2⟩ := r.uncons
  rw [h2.nil_of]
  exact ⟨v, rfl, h1⟩
theorem ra2 {K : PySem.W.Frag} {F : Hp} {vs : List V} (r : RA K F vs [d, e]) : ∃ v w, vs = [v, w] ∧ R K F v d ∧ R K F w e := by
  obtain ⟨v, ws, rfl, h1, h2⟩ := r.uncons
  obtain ⟨w, rfl, h3⟩ := ra1 h2
  exact ⟨v, w, rfl, h1, h3⟩
theorem cd_len_lst (q : Q (.int xs.length) M) : ClD X (.builtin "len") [.lst xs] M Q := fun Mx F H vs QV p r k => by
  obtain ⟨v, rfl, r1⟩ := ra1 r
  obtain ⟨a, ws, rfl, _, h1, a1⟩ := r1.list p.m.ex
  refine rCl.of call_len ⟨_, xs.length, rfl, .inl ⟨ws, h1, a1.1.symm⟩, k _ _ (pst_same p.m (.int _) q)⟩
theorem cd_len_fz (q : Q (.int xs.length) M) : ClD X (.builtin "len") [.fz xs] M Q := fun Mx F H vs QV p r k => by
  obtain ⟨v, rfl, r1⟩ := ra1 r
  obtain ⟨a, ws, rfl, _, h1, a1⟩ := r1.locked p.m.ex
  refine rCl.of call_len ⟨_, xs.length, rfl, .inl ⟨ws, h1, a1.1.symm⟩, k _ _ (pst_same p.m (.int _) q)⟩
theorem cd_len_tup (q : Q (.int xs.length) M) : ClD X (.builtin "len") [.tup xs] M Q := fun Mx F H vs QV p r k => by
  obtain ⟨v, rfl, r1⟩ := ra1 r
  obtain ⟨a, ws, rfl, h1, a1⟩ := r1.tuple p.m.ex
  refine rCl.of call_len ⟨_, xs.length, rfl, .inr ⟨ws, h1, a1.1.symm⟩, k _ _ (pst_same p.m (.int _) q)⟩
theorem cd_len_own (n : Nat) {l : Addr} (hn : M[n]? = some (l, .lst xs)) (q : Q (.int xs.length) M) : ClD X (.builtin "len") [.raw (.ref l)] M Q := fun Mx F H vs QV p r k => by
  obtain ⟨v, rfl, r1⟩ := ra1 r
  cases r1
  have hm : (l, MO.lst xs) ∈ M ++ Mx := List.mem_append_left _ (List.mem_of_getElem? hn)
  obtain ⟨_, ws, e, a1⟩ := p.m.own _ hm
  refine rCl.of call_len ⟨_, xs.length, rfl, .inl ⟨ws, SqL.of e, a1.1.symm⟩, k _ _ (pst_same p.m (.int _) q)⟩
theorem cd_abs (q : Q (.int (if i < 0 then -i else i)) M) : ClD X (.builtin "abs") [.int i] M Q := fun Mx F H vs QV p r k => by
  obtain ⟨v, rfl, r1⟩ := ra1 r
  cases r1
  exact rCl.of call_abs ⟨i, rfl, k _ _ (pst_same p.m (.int _) q)⟩
theorem cd_max2 (hc : X.calm = true) (q : Q (.int (max i j)) M) : ClD X (.builtin "max") [.int i, .int j] M Q := fun Mx F H vs QV p r k => by
  obtain ⟨v, w, rfl, r1, r2⟩ := ra2 r
  cases r1; cases r2
  refine rCl.of (call_max2 hc) ⟨i, j, rfl, k _ _ (pst_same p.m (.int _) ?_)⟩
  have : (if j > i then j else i) = max i j := by omega
  rw [this]; exact q
theorem cd_min2 (hc : X.calm = true) (q : Q (.int (min i j)) M) : ClD X (.builtin "min") [.int i, .int j] M Q := fun Mx F H vs QV p r k => by
  obtain ⟨v, w, rfl, r1, r2⟩ := ra2 r
  cases r1; cases r2
  refine rCl.of (call_min2 hc) ⟨i, j, rfl, k _ _ (pst_same p.m (.int _) ?_)⟩
  have : (if j < i then j else i) = min i j := by omega
  rw [this]; exact q
theorem cd_intI (q : Q (.int i) M) : ClD X (.type "int") [.int i] M Q := fun Mx F H vs QV p r k => by
  obtain ⟨v, rfl, r1⟩ := ra1 r
  cases r1
  exact rCl.of call_int1 (.inl ⟨i, rfl, k _ _ (pst_same p.m (.int _) q)⟩)
theorem cd_intB {c : Bool} (q : Q (.int (if c then 1 else 0)) M) : ClD X (.type "int") [.bl c] M Q := fun Mx F H vs QV p r k => by
  obtain ⟨v, rfl, r1⟩ := ra1 r
  cases r1
  exact rCl.of call_int1 (.inr ⟨c, rfl, k _ _ (pst_same p.m (.int _) q)⟩)
theorem ra_ints {K : PySem.W.Frag} {F : Hp} : ∀ {ns : List Int} {vs : List V}, RA K F vs (ns.map D.int) → vs = ns.map V.int
  | [], vs, r => by simpa using r.nil_of
  | n :: ns, vs, r => by
    obtain ⟨v, ws, rfl, r1, r2⟩ := r.uncons
    cases r1
    rw [ra_ints r2]
    rfl
theorem ra_bls {K : PySem.W.Frag} {F : Hp} : ∀ {ns : List Bool} {vs : List V}, RA K F vs (ns.map D.bl) → vs = ns.map V.bl
  | [], vs, r => by simpa using r.nil_of
  | n :: ns, vs, r => by
    obtain ⟨v, ws, rfl, r1, r2⟩ := r.uncons
    cases r1
    rw [ra_bls r2]
    rfl
theorem ints_ra {K : PySem.W.Frag} {F : Hp} : ∀ {ns : List Int}, RA K F (ns.map V.int) (ns.map D.int)
  | [] => RA.nil
  | n :: ns => RA.cons (.int n) ints_ra
theorem cd_sum (hc : X.calm = true) {ns : List Int} (q : Q (.int ns.sum) M) : ClD X (.builtin "sum") [.lst (ns.map .int)] M Q := fun Mx F H vs QV p r k => by
  obtain ⟨v, rfl, r1⟩ := ra1 r
  obtain ⟨a, ws, rfl, _, h1, a1⟩ := r1.list p.m.ex
  rw [ra_ints a1] at h1
  exact rCl.of (cr_sum hc) ⟨a, ns, rfl, h1, k _ _ (pst_same p.m (.int _) q)⟩
theorem cd_all (hc : X.calm = true) {ns : List Bool} (q : Q (.bl (ns.all id)) M) : ClD X (.builtin "all") [.lst (ns.map .bl)] M Q := fun Mx F H vs QV p r k => by
  obtain ⟨v, rfl, r1⟩ := ra1 r
  obtain ⟨a, ws, rfl, _, h1, a1⟩ := r1.list p.m.ex
  rw [ra_bls a1] at h1
  exact rCl.of (cr_all hc) ⟨a, ns, rfl, h1, k _ _ (pst_same p.m (.bl _) q)⟩
theorem cd_any (hc : X.calm = true) {ns : List Bool} (q : Q (.bl (ns.any id)) M) : ClD X (.builtin "any") [.lst (ns.map .bl)] M Q := fun Mx F H vs QV p r k => by
  obtain ⟨v, rfl, r1⟩ := ra1 r
  obtain ⟨a, ws, rfl, _, h1, a1⟩ := r1.list p.m.ex
  rw [ra_bls a1] at h1
  exact rCl.of (cr_any hc) ⟨a, ns, rfl, h1, k _ _ (pst_same p.m (.bl _) q)⟩
theorem cd_maxL (hc : X.calm = true) {ns : List Int} (h0 : 0 < ns.length) (q : ∀ m, m ∈ ns → (∀ y ∈ ns, y ≤ m) → Q (.int m) M) : ClD X (.builtin "max") [.lst (ns.map .int)] M Q := fun Mx F H vs QV p r k => by
  obtain ⟨v, rfl, r1⟩ := ra1 r
  obtain ⟨a, ws, rfl, _, h1, a1⟩ := r1.list p.m.ex
  rw [ra_ints a1] at h1
  exact rCl.of (cr_max hc) ⟨a, ns, rfl, h1, h0, fun m h2 h3 => k _ _ (pst_same p.m (.int _) (q m h2 h3))⟩
theorem cd_minL (hc : X.calm = true) {ns : List Int} (h0 : 0 < ns.length) (q : ∀ m, m ∈ ns → (∀ y ∈ ns, m ≤ y) → Q (.int m) M) : ClD X (.builtin "min") [.lst (ns.map .int)] M Q := fun Mx F H vs QV p r k => by
  obtain ⟨v, rfl, r1⟩ := ra1 r
  obtain ⟨a, ws, rfl, _, h1, a1⟩ := r1.list p.m.ex
  rw [ra_ints a1] at h1
  exact rCl.of (cr_min hc) ⟨a, ns, rfl, h1, h0, fun m h2 h3 => k _ _ (pst_same p.m (.int _) (q m h2 h3))⟩
theorem cd_list {f : List D → D} (hf : f = .lst ∨ f = .fz ∨ f = .tup) (q : Q (.lst xs) M) : ClD X (.type "list") [f xs] M Q := fun Mx F H vs QV p r k => by
  obtain ⟨v, rfl, r1⟩ := ra1 r
  rcases hf with rfl | rfl | rfl
  · obtain ⟨a, ws, rfl, _, h1, a1⟩ := r1.list p.m.ex
    exact rCl.of call_list_of ⟨a, ws, rfl, .inl h1, fun b hb => k _ _ (pst_lst p.m a1 hb q)⟩
  · obtain ⟨a, ws, rfl, _, h1, a1⟩ := r1.locked p.m.ex
    exact rCl.of call_list_of ⟨a, ws, rfl, .inl h1, fun b hb => k _ _ (pst_lst p.m a1 hb q)⟩
  · obtain ⟨a, ws, rfl, h1, a1⟩ := r1.tuple p.m.ex
    exact rCl.of call_list_of ⟨a, ws, rfl, .inr h1, fun b hb => k _ _ (pst_lst p.m a1 hb q)⟩
theorem cd_listO {f : List D → D} (hf : f = .lst ∨ f = .fz ∨ f = .tup) (q : ∀ p, Q (.raw (.ref p)) ((p, .lst xs) :: M)) : ClD X (.type "list") [f xs] M Q := fun Mx F H vs QV p r k => by
  obtain ⟨v, rfl, r1⟩ := ra1 r
  rcases hf with rfl | rfl | rfl
  · obtain ⟨a, ws, rfl, _, h1, a1⟩ := r1.list p.m.ex
    exact rCl.of call_list_of ⟨a, ws, rfl, .inl h1, fun b hb => k _ _ (pst_own p.m a1 hb (q b))⟩
  · obtain ⟨a, ws, rfl, _, h1, a1⟩ := r1.locked p.m.ex
    exact rCl.of call_list_of ⟨a, ws, rfl, .inl h1, fun b hb => k _ _ (pst_own p.m a1 hb (q b))⟩
  · obtain ⟨a, ws, rfl, h1, a1⟩ := r1.tuple p.m.ex
    exact rCl.of call_list_of ⟨a, ws, rfl, .inr h1, fun b hb => k _ _ (pst_own p.m a1 hb (q b))⟩
theorem cd_tuple_lst (q : Q (.tup xs) M) : ClD X (.type "tuple") [.lst xs] M Q := fun Mx F H vs QV p r k => by
  obtain ⟨v, rfl, r1⟩ := ra1 r
  obtain ⟨a, ws, rfl, _, h1, a1⟩ := r1.list p.m.ex
  exact rCl.of call_tuple_of ⟨a, ws, rfl, .inl ⟨h1, fun b hb => k _ _ (pst_tup p.m a1 hb q)⟩⟩
theorem cd_tuple_own (n : Nat) {l : Addr} (hn : M[n]? = some (l, .lst xs)) (q : Q (.tup xs) M) : ClD X (.type "tuple") [.raw (.ref l)] M Q := fun Mx F H vs QV p r k => by
  obtain ⟨v, rfl, r1⟩ := ra1 r
  cases r1
  have hm : (l, MO.lst xs) ∈ M ++ Mx := List.mem_append_left _ (List.mem_of_getElem? hn)
  obtain ⟨_, ws, e, a1⟩ := p.m.own _ hm
  exact rCl.of call_tuple_of ⟨l, ws, rfl, .inl ⟨SqL.of e, fun b hb => k _ _ (pst_tup p.m a1 hb q)⟩⟩
theorem cd_tuple_tup (q : Q (.tup xs) M) : ClD X (.type "tuple") [.tup xs] M Q := fun Mx F H vs QV p r k => by
  obtain ⟨v, rfl, r1⟩ := ra1 r
  obtain ⟨a, ws, rfl, h1, a1⟩ := r1.tuple p.m.ex
  exact rCl.of call_tuple_of ⟨a, ws, rfl, .inr ⟨h1, k _ _ (pst_same p.m r1 q)⟩⟩
theorem cd_sorted {ns : List Int} (q : ∀ ms : List Int, ms.Perm ns → ms.Pairwise (· ≤ ·) → Q (.lst (ms.map .int)) M) : ClD X (.builtin "sorted") [.lst (ns.map .int)] M Q := fun Mx F H vs QV p r k => by
  obtain ⟨v, rfl, r1⟩ := ra1 r
  obtain ⟨a, ws, rfl, _, h1, a1⟩ := r1.list p.m.ex
  rw [ra_ints a1] at h1
  exact rCl.of cr_sortedI ⟨a, ns, rfl, h1, fun ms b h2 h3 hb => k _ _ (pst_lst p.m ints_ra hb (q ms h2 h3))⟩
end
end SL

set_option maxHeartbeats 2000000
/-! Statements, targets, loops, comprehensions, calls, defs. -/
namespace SL
open PySem PySem.Spec PyProof.Rows L2 Evl

structure Post where
  nx : Sls → Mem → Prop := fun _ _ => False
  rt : DK := fun _ _ => False
  bk : Sls → Mem → Prop := fun _ _ => False
  ct : Sls → Mem → Prop := fun _ _ => False
  er : EK := fun _ _ _ => False
def EndsOf (K : PySem.W.Frag) (Mx : Mem) (F : Hp) (P : Post) : Ends := ⟨Sst K Mx F P.nx, Pst K Mx F P.rt, Sst K Mx F P.bk, Sst K Mx F P.ct⟩
abbrev noE : EK := fun _ _ _ => False

section
variable (X : Cx)
def S1 (s : Stmt) (st : Sls) (M : Mem) (P : Post) : Prop := ∀ Mx F σ H Wx, Pre X st M Mx F σ H P.er Wx → PassesOwn (model X.prog X.w) X.A X.env X.xe → WS X s (EndsOf X.K Mx F P) σ H
def SJ (ss : List Stmt) (st : Sls) (M : Mem) (P : Post) : Prop := ∀ Mx F σ H Wx, Pre X st M Mx F σ H P.er Wx → PassesOwn (model X.prog X.w) X.A X.env X.xe → WSs X ss (EndsOf X.K Mx F P) σ H
/-- a target: it stores at the slots js -/
def GJ (tg : Expr) (js : List Nat) (d : D) (st : Sls) (M : Mem) (Q : Sls → Mem → Prop) : Prop := ∀ Mx F σ H v, Slots X.K F st σ → At X M Mx F H → R X.K F v d →
  WG X tg v σ H (fun σ' H' => (∀ k, k ∉ js → σ'[k]? = σ[k]?) ∧ σ'.length = σ.length ∧ Sst X.K Mx F Q σ' H')
def GsJ (tgs : List Expr) (js : List Nat) (ds : List D) (st : Sls) (M : Mem) (Q : Sls → Mem → Prop) : Prop := ∀ Mx F σ H vs, Slots X.K F st σ → At X M Mx F H → RA X.K F vs ds →
  ∀ (pins : List (Addr × Obj)) (s : Shared) (us : List Value), Inv X pins σ H s → Vals vs us →
    wpAny (model X.prog X.w) X.A (assignInOrder ((assignEach tgs X.env).map (·.2)) us) (fun _ s' => ∃ σ' H', Inv X pins σ' H' s' ∧ (∀ k, k ∉ js → σ'[k]? = σ[k]?) ∧ σ'.length = σ.length ∧ Sst X.K Mx F Q σ' H') X.xe s
end
section
variable {X : Cx} {e a b c : Expr} {es : List Expr} {s : Stmt} {ss : List Stmt} {st : Sls} {M Mx : Mem} {E : EK} {F F' H H' : Hp} {σ : L2.St} {Wx : WX} {P : Post} {pos : Pos}

theorem endsMono {K : PySem.W.Frag} (ex : Ex F F') {σ' : L2.St} {Hh : Hp} (h : WSs X ss (EndsOf K Mx F' P) σ' Hh) : WSs X ss (EndsOf K Mx F P) σ' Hh :=
  h.imp (fun _ _ q => q.mono ex) (fun _ _ q => q.mono ex) (fun _ _ q => q.mono ex) (fun _ _ q => q.mono ex)
theorem Sst.next {K : PySem.W.Frag} {Q : Sls → Mem → Prop} {σ' : L2.St} (h : Sst K Mx F Q σ' H') : ∃ st' M' F', Q st' M' ∧ Ex F F' ∧ Slots K F' st' σ' ∧ RelM K (M' ++ Mx) F' H' := h
theorem preOf {st' : Sls} {M' : Mem} {σ' : L2.St} (p : Pre X st M Mx F σ H E Wx) (ex : Ex F F') (sl : Slots X.K F' st' σ') (m : RelM X.K (M' ++ Mx) F' H') : Pre X st' M' Mx F' σ' H' E Wx := ⟨sl, m, p.tk, p.wi.mono ex, p.un⟩
theorem sstOf {K : PySem.W.Frag} {Q : Sls → Mem → Prop} {st' : Sls} {M' : Mem} {σ' : L2.St} (q : Q st' M') (ex : Ex F F') (sl : Slots K F' st' σ') (m : RelM K (M' ++ Mx) F' H') : Sst K Mx F Q σ' H' := ⟨st', M', F', q, ex, sl, m⟩

/-! ### blocks -/
theorem sj_nil (h : P.nx st M) : SJ X [] st M P := fun Mx F σ H Wx p _ => WSs.of pss_nil (sstOf h (Ex.refl F) p.sl p.m)
theorem sj_cons (h : S1 X s st M { P with nx := fun st' M' => SJ X ss st' M' P }) : SJ X (s :: ss) st M P := fun Mx F σ H Wx p hp => by
  refine WSs.of (pss_cons ps_W pss_W) ?_
  refine (h Mx F σ H Wx p hp).imp (fun σ' H' ⟨st', M', F', q, ex, sl, m⟩ => ?_) (fun _ _ q => q) (fun _ _ q => q) (fun _ _ q => q)
  exact endsMono ex ((show SJ X ss st' M' P from q) Mx F' σ' H' Wx (preOf p ex sl m) hp)
/-- a word between a statement and the rest: the rest is shown once -/
theorem sj_cut (Mid : Sls → Mem → Prop) (h : S1 X s st M { P with nx := Mid }) (h2 : ∀ st' M', Mid st' M' → SJ X ss st' M' P) : SJ X (s :: ss) st M P := fun Mx F σ H Wx p hp => by
  refine WSs.of (pss_cons ps_W pss_W) ?_
  refine (h Mx F σ H Wx p hp).imp (fun σ' H' ⟨st', M', F', q, ex, sl, m⟩ => ?_) (fun _ _ q => q) (fun _ _ q => q) (fun _ _ q => q)
  exact endsMono ex (h2 _ _ q Mx F' σ' H' Wx (preOf p ex sl m) hp)
theorem s1_pass (h : P.nx st M) : S1 X (.Pass pos) st M P := fun Mx F σ H Wx p _ => WS.of ps_pass (sstOf h (Ex.refl F) p.sl p.m)
theorem s1_break (h : P.bk st M) : S1 X (.Break pos) st M P := fun Mx F σ H Wx p _ => WS.of ps_break (sstOf h (Ex.refl F) p.sl p.m)
theorem s1_cont (h : P.ct st M) : S1 X (.Continue pos) st M P := fun Mx F σ H Wx p _ => WS.of ps_continue (sstOf h (Ex.refl F) p.sl p.m)
theorem s1_expr (h : EJ X e st M (fun _ M1 => P.nx st M1) P.er) (hs : swapsWith e none pos.line X.env = pure false := by rfl) : S1 X (.Expr e pos) st M P := fun Mx F σ H Wx p _ => by
  refine WS.of (ps_expr pe_W hs) ?_
  exact h.bind p fun d M1 F1 v H1 q e1 r1 p1 => sstOf q e1 p1.sl p1.m
theorem relSub {K : PySem.W.Frag} {M M' : Mem} (m : RelM K (M ++ Mx) F H) (s : M'.Sublist M) : RelM K (M' ++ Mx) F H := m.sub (s.append (List.Sublist.refl Mx))
theorem s1_ret (h : EJ X e st M (fun d M1 => ∃ M2, M2.Sublist M1 ∧ P.rt d M2) P.er) : S1 X (.Return (some e) pos) st M P := fun Mx F σ H Wx p _ => by
  refine WS.of (ps_ret pe_W) ?_
  exact h.bind p fun d M1 F1 v H1 ⟨M2, hs, q⟩ e1 r1 p1 => ⟨d, M2, F1, q, e1, r1, relSub p1.m hs⟩
theorem s1_retN (h : ∃ M2, M2.Sublist M ∧ P.rt .non M2) : S1 X (.Return none pos) st M P := fun Mx F σ H Wx p _ => by
  obtain ⟨M2, hs, q⟩ := h
  exact WS.of ps_retN ⟨.non, M2, F, q, Ex.refl F, .non, relSub p.m hs⟩
theorem s1_if {x y : List Stmt} (h : TJ X c st M (fun k M1 => if k = true then SJ X x st M1 P else SJ X y st M1 P) P.er) : S1 X (.If c x y pos) st M P := fun Mx F σ H Wx p hp => by
  refine WS.of (ps_if pt_W pss_W pss_W) ?_
  refine h.bind p fun k M1 F1 H1 q e1 p1 => ?_
  cases k with
  | true => exact endsMono e1 ((show SJ X x st M1 P from q) Mx F1 σ H1 Wx p1 hp)
  | false => exact endsMono e1 ((show SJ X y st M1 P from q) Mx F1 σ H1 Wx p1 hp)

/-! ### assignments -/
theorem s1_set (i : Nat) {x : Str} {pos' : Pos} (hN : X.N.Nodup) (hi : X.N[i]? = some x) (hx : Loc X.env.scope x) (h : EJ X e st M (fun d M1 => P.nx (st.set i (some d)) M1) P.er) (hs : swapsWith e (some (.Name x pos')) pos.line X.env = pure false := by rfl)
    (hf : X.fn x = true ∨ X.env.scope.names.lookup x = some .local := by first | exact .inl rfl | exact .inr rfl | assumption) : S1 X (.Assign [.Name x pos'] e pos) st M P := fun Mx F σ H Wx p _ => by
  refine WS.of (ps_set hN hi hx pe_W hs hf) ?_
  exact h.bind p fun d M1 F1 v H1 q e1 r1 p1 => sstOf q e1 (p1.sl.set r1) p1.m
theorem gj_name (i : Nat) {x : Str} {d : D} {Q : Sls → Mem → Prop} (hN : X.N.Nodup) (hi : X.N[i]? = some x) (hx : Loc X.env.scope x) (h : Q (st.set i (some d)) M)
    (hf : X.fn x = true ∨ X.env.scope.names.lookup x = some .local := by first | exact .inl rfl | exact .inr rfl | assumption) : GJ X (.Name x pos) [i] d st M Q := fun Mx F σ H v sl p r pins s u I rv =>
  (pg_name (X := X) (pos := pos) hN hi hx hf).run pins s σ H v u _ I rv ⟨fun k hk => by rw [List.getElem?_set_ne (by simp at hk; omega)], by simp, sstOf h (Ex.refl F) (sl.set r) p.m⟩
theorem gsj_nil {Q : Sls → Mem → Prop} (h : Q st M) : GsJ X [] [] [] st M Q := fun Mx F σ H vs sl p r pins s us I rv => by
  have := r.nil_of
  subst this
  cases rv
  exact assignInOrder_nil ⟨σ, H, I, fun _ _ => rfl, rfl, sstOf h (Ex.refl F) sl p.m⟩
theorem gsj_cons {js ks : List Nat} {d : D} {ds : List D} {Q : Sls → Mem → Prop} (h : GJ X e js d st M (fun st1 M1 => GsJ X es ks ds st1 M1 Q))
    (hs : (assignEach (e :: es) X.env).map (·.2) = assign e X.env :: (assignEach es X.env).map (·.2) := by rfl) : GsJ X (e :: es) (js ++ ks) (d :: ds) st M Q := fun Mx F σ H vs sl p r pins s us I rv => by
  obtain ⟨v, ws, rfl, r1, r2⟩ := r.uncons
  cases rv with
  | cons rv rr =>
    rw [hs]
    refine assignInOrder_cons (thn (h Mx F σ H v sl p r1 pins s _ I rv) fun _ s1 ⟨σ1, H1, I1, k1, l1, st1, M1, F1, q1, e1, sl1, m1⟩ => ?_)
    refine thn (q1 Mx F1 σ1 H1 ws sl1 ⟨m1, p.un⟩ (r2.mono e1) pins s1 _ I1 rr) fun _ s2 ⟨σ2, H2, I2, k2, l2, z⟩ => ⟨σ2, H2, I2, fun k hk => ?_, l2.trans l1, z.mono e1⟩
    rw [List.mem_append, not_or] at hk
    rw [k2 k hk.2, k1 k hk.1]
/-- a, b = t (the value a tuple) -/
theorem gj_tup {js : List Nat} {ds : List D} {kk : Nat} {Q : Sls → Mem → Prop} (hc : X.calm = true) (h : GsJ X es js ds st M Q) (hl : es.length = ds.length) (hn : (assignEach es X.env).length = es.length := by rfl) (hst : (assignEach es X.env).findIdx? (·.1) = none := by rfl) : GJ X (.Tuple es kk pos) js (.tup ds) st M Q := fun Mx F σ H v sl p r pins s u I rv => by
  obtain ⟨a, vs, rfl, ht, ra⟩ := r.tuple p.m.ex
  refine (pg_tup (X := X) (es := es) (k := kk) (pos := pos) (n := es.length) (t := fun vs σ H Q => ∀ (pins : List (Addr × Obj)) (s : Shared) (us : List Value), Inv X pins σ H s → Vals vs us → wpAny (model X.prog X.w) X.A (assignInOrder ((assignEach es X.env).map (·.2)) us) (fun _ s' => ∃ σ' H', Inv X pins σ' H' s' ∧ Q σ' H') X.xe s) hc
    ⟨fun pins s σ H vs us Q I r h => h pins s us I r⟩ hn hst).run pins s σ H _ u _ I rv ⟨a, vs, rfl, ht, by rw [ra.1, hl], fun pins s us I rv => h Mx F σ H vs sl p ra pins s us I rv⟩
theorem s1_asg {tg : Expr} {js : List Nat} (h : EJ X e st M (fun d M1 => GJ X tg js d st M1 P.nx) P.er) (hs : swapsWithSole [tg] e pos.line X.env = pure false := by rfl) (hw : swappedStores [tg] e X.env = pure none := by rfl)
    (h1 : (assignEach [tg] X.env).map (·.2) = [assign tg X.env] := by rfl) : S1 X (.Assign [tg] e pos) st M P := fun Mx F σ H Wx p _ => by
  refine WS.of (ps_asg pe_W pg_W hs hw h1) ?_
  refine h.bind p fun d M1 F1 v H1 q e1 r1 p1 pins s u I rv => ?_
  exact thn (q Mx F1 σ H1 v p1.sl p1.at_ r1 pins s u I rv) fun _ s' ⟨σ', H', I', _, _, z⟩ => ⟨σ', H', I', z.mono e1⟩
/-- a, b = x, y: plain local names -/
theorem s1_par (i j : Nat) {x y : Str} {px py pt : Pos} {kt k2 pt2} (hc : X.calm = true) (hN : X.N.Nodup) (hi : X.N[i]? = some x) (hj : X.N[j]? = some y) (hij : i ≠ j)
    (hx : X.env.scope.names.lookup x = some .local) (hy : X.env.scope.names.lookup y = some .local)
    (h : AJ X [a, b] st M (fun ds M1 => ∃ d1 d2, ds = [d1, d2] ∧ P.nx ((st.set i (some d1)).set j (some d2)) M1) P.er)
    (hw : swappedStores [.Tuple [.Name x px, .Name y py] kt pt] (.Tuple [a, b] k2 pt2) X.env = pure (some [x, y]))
    (hs : swapsWithSole [.Tuple [.Name x px, .Name y py] kt pt] (.Tuple [a, b] k2 pt2) pos.line X.env = pure false := by rfl) :
    S1 X (.Assign [.Tuple [.Name x px, .Name y py] kt pt] (.Tuple [a, b] k2 pt2) pos) st M P := fun Mx F σ H Wx p _ => by
  refine WS.of (ps_par hc hN hi hj hij hx hy pa_W hw hs) ?_
  refine h.bind p fun ds M1 F1 vs H1 ⟨d1, d2, ed, q⟩ e1 r1 p1 => ?_
  subst ed
  obtain ⟨v, w, rfl, ra, rb⟩ := ra2 r1
  exact ⟨v, w, rfl, sstOf q e1 ((p1.sl.set ra).set rb) p1.m⟩
/-- x op= e -/
theorem s1_aug (i : Nat) {x : Str} {op : Operator} {pos' : Pos} {d0 : D} (hN : X.N.Nodup) (hi : X.N[i]? = some x) (hx : Loc X.env.scope x) (hd : st[i]? = some (some d0))
    (h : EJ X e st M (fun d M1 => OpD X (inplaceOp op) d0 d M1 (fun d2 M2 => P.nx (st.set i (some d2)) M2)) P.er) (hf : X.fn x = true ∨ X.env.scope.names.lookup x = some .local := by first | exact .inl rfl | exact .inr rfl | assumption) :
    S1 X (.AugAssign (.Name x pos') op e pos) st M P := fun Mx F σ H Wx p _ => by
  obtain ⟨v0, hv0, r0⟩ := p.sl.2 i d0 hd
  refine WS.of (ps_aug hN hi hx pe_W (ti := rOp X (inplaceOp op)) (fun pins s σ H x y v u Q I rx ry h => h pins s σ v u I rx ry) hf) ?_
  refine ⟨v0, hv0, ?_⟩
  refine h.bind p fun d M1 F1 v H1 q e1 r1 p1 => q Mx F1 H1 v0 v _ p1.at_ (r0.mono e1) r1 fun v2 H2 ⟨d2, M2, F2, q2, e2, r2, m2⟩ => ?_
  exact sstOf q2 (e1.trans e2) ((p1.sl.mono e2).set r2) m2

/-! ### loops -/
def WI (X : Cx) (tg iter : Expr) : TI := fun σ H R => ∀ (pins : List (Addr × Obj)) (s : Shared), Inv X pins σ H s → wpAny (model X.prog X.w) X.A (eval iter X.env) (fun v s1 => wpAny (model X.prog X.w) X.A (pyIter v) (PIE X pins σ tg R) X.xe s1) X.xe s
theorem pi_W {tg iter : Expr} : PI X tg iter (WI X tg iter) := ⟨fun pins s _ _ _ I h => h pins s I⟩
theorem WI.of {tg iter : Expr} {wi : TI} {R : It → Hp → Prop} (h : PI X tg iter wi) (q : wi σ H R) : WI X tg iter σ H R := fun pins s I => h.run pins s σ H R I q
/-- the iterator yields ds -/
structure ItOk (K : PySem.W.Frag) (J : It) (ds : List D) (F0 : Hp) : Prop where
  go : ∀ (i : Nat) (d : D) (F H : Hp) (M : Mem), ds[i]? = some d → Ex F0 F → RelM K M F H → J.go i H ∧ ∀ x H', J.yld i H x H' → ∃ F', Ex F F' ∧ R K F' x d ∧ RelM K M F' H'
  stop : ∀ (F H : Hp) (M : Mem), Ex F0 F → RelM K M F H → J.stop ds.length H
def IJ (X : Cx) (tg iter : Expr) (st : Sls) (M : Mem) (Q : List D → Mem → Prop) (E : EK) : Prop := ∀ Mx F σ H Wx, Pre X st M Mx F σ H E Wx →
  WI X tg iter σ H (fun J H1 => ∃ ds M1 F1, Q ds M1 ∧ Ex F F1 ∧ RelM X.K (M1 ++ Mx) F1 H1 ∧ ItOk X.K J ds F1)
variable {tg iter : Expr} {QI : List D → Mem → Prop}
theorem itok_list {K : PySem.W.Frag} {F : Hp} {a : Addr} {vs : List V} {ds : List D} (h : SqL K F a vs) (r : RA K F vs ds) (hu : ∀ (F' H : Hp) (M : Mem) (xs : List V), Ex F F' → RelM K M F' H → SqL K H a xs → xs = vs) : ItOk K (Itl K a) ds F where
  go := fun i d F' H M hd ex m => by
    obtain ⟨v, hv, rv⟩ := r.get hd
    have hs : SqL K H a vs := ex_l (ex.trans m.ex) h
    exact ⟨⟨vs, v, hs, hv⟩, fun x H' ⟨e1, y⟩ => by
      subst e1
      have := y vs hs
      rw [hv] at this
      cases this
      exact ⟨F', Ex.refl F', rv.mono ex, m⟩⟩
  stop := fun F' H M ex m => ⟨vs, ex_l (ex.trans m.ex) h, by rw [r.1]; exact Nat.le_refl _⟩
theorem ij_list (h : EJ X iter st M (fun d M1 => ∃ ds, (d = .lst ds ∨ d = .fz ds) ∧ QI ds M1) E) : IJ X tg iter st M QI E := fun Mx F σ H Wx p => by
  refine WI.of (pi_list pe_W) ?_
  refine h.bind p fun d M1 F1 v H1 ⟨ds, hd, q⟩ e1 r1 p1 => ?_
  have key : ∃ a vs, v = .ref a ∧ SqL X.K F1 a vs ∧ SqL X.K H1 a vs ∧ RA X.K F1 vs ds := by
    rcases hd with rfl | rfl
    · obtain ⟨a, vs, e, _, _, ra⟩ := r1.list (Ex.refl F1)
      obtain ⟨_, _, e', _, hs, _⟩ := r1.list p1.m.ex
      cases r1 with
      | lst h1 h2 h3 => exact ⟨_, _, rfl, SqL.of h1, SqL.of (p1.m.ex _ _ h1), h2, h3⟩
    · cases r1 with
      | @fz a xs ds h1 h2 h3 => exact ⟨_, _, rfl, h1, ex_l p1.m.ex h1, h2, h3⟩
  obtain ⟨a, vs, rfl, hF, hH, ra⟩ := key
  refine ⟨a, rfl, ⟨vs, hH⟩, ds, M1, F1, q, e1, p1.m, ?_⟩
  exact {
    go := fun i d F' H M hd ex m => by
      obtain ⟨v, hv, rv⟩ := ra.get hd
      have hs : SqL X.K H a vs := ex_l (ex.trans m.ex) hF
      exact ⟨⟨vs, v, hs, hv⟩, fun x H' ⟨e1, y⟩ => by
        subst e1
        have := y vs hs
        rw [hv] at this
        cases this
        exact ⟨F', Ex.refl F', rv.mono ex, m⟩⟩
    stop := fun F' H M ex m => ⟨vs, ex_l (ex.trans m.ex) hF, by rw [ra.1]; exact Nat.le_refl _⟩ }
theorem ij_tuple (h : EJ X iter st M (fun d M1 => ∃ ds, d = .tup ds ∧ QI ds M1) E) : IJ X tg iter st M QI E := fun Mx F σ H Wx p => by
  refine WI.of (pi_tup pe_W) ?_
  refine h.bind p fun d M1 F1 v H1 ⟨ds, hd, q⟩ e1 r1 p1 => ?_
  subst hd
  obtain ⟨a, vs, rfl, hF, ra⟩ := r1.tuple (Ex.refl F1)
  refine ⟨a, rfl, ⟨vs, ex_t p1.m.ex hF⟩, ds, M1, F1, q, e1, p1.m, ?_⟩
  exact {
    go := fun i d F' H M hd ex m => by
      obtain ⟨v, hv, rv⟩ := ra.get hd
      have hs : SqT X.K H a vs := ex_t (ex.trans m.ex) hF
      exact ⟨⟨vs, v, hs, hv⟩, fun x H' ⟨e1, y⟩ => by
        subst e1
        have := y vs hs
        rw [hv] at this
        cases this
        exact ⟨F', Ex.refl F', rv.mono ex, m⟩⟩
    stop := fun F' H M ex m => ⟨vs, ex_t (ex.trans m.ex) hF, by rw [ra.1]; exact Nat.le_refl _⟩ }
/-- the ints of a range -/
def rngD (lo : Int) (n : Nat) : List D := (List.range n).map fun (i : Nat) => D.int (lo + (i : Int))
theorem rngD_len (lo : Int) (n : Nat) : (rngD lo n).length = n := by simp [rngD]
theorem rngD_get {lo : Int} {n i : Nat} {d : D} (h : (rngD lo n)[i]? = some d) : i < n ∧ d = .int (lo + (i : Int)) := by
  unfold rngD at h
  rw [List.getElem?_map] at h
  by_cases hi : i < n
  · rw [List.getElem?_range hi] at h
    simp at h
    exact ⟨hi, h.symm⟩
  · rw [List.getElem?_eq_none (by simpa using hi)] at h
    simp at h
theorem itok_range {K : PySem.W.Frag} {F : Hp} (lo : Int) (n : Nat) : ItOk K (Itr lo n) (rngD lo n) F where
  go := fun i d F' H M hd ex m => by
    obtain ⟨hi, rfl⟩ := rngD_get hd
    exact ⟨hi, fun x H' ⟨e1, e2⟩ => by
      subst e1 e2
      exact ⟨F', Ex.refl F', .int _, m⟩⟩
  stop := fun F' H M ex m => by rw [rngD_len]; exact Nat.le_refl _
theorem ij_range1 {p1 : Pos} (h : AJ X [a] st M (fun ds M1 => ∃ j : Int, ds = [.int j] ∧ -(2 ^ 60) ≤ j ∧ j < 2 ^ 60 ∧ QI (rngD 0 j.toNat) M1) E) (hg : Gl X "range") (hm : X.mg "range" = none) (hs : starEach [a] X.env = [(false, eval a X.env)] := by rfl) : IJ X tg (.Call (.Name "range" p1) [a] [] pos) st M QI E := fun Mx F σ H Wx p => by
  refine WI.of (pi_range1 hg hm pa_W hs) ?_
  refine h.bind p fun ds M1 F1 vs H1 ⟨j, hd, h1, h2, q⟩ e1 r1 p1 => ?_
  subst hd
  obtain ⟨v, rfl, r⟩ := ra1 r1
  cases r
  exact ⟨j, rfl, by omega, by omega, _, M1, F1, q, e1, p1.m, itok_range 0 _⟩
theorem ij_range2 {p1 : Pos} (h : AJ X [a, b] st M (fun ds M1 => ∃ i j : Int, ds = [.int i, .int j] ∧ (-(2 ^ 60) ≤ i ∧ i < 2 ^ 60 ∧ -(2 ^ 60) ≤ j ∧ j < 2 ^ 60) ∧ QI (rngD i (j - i).toNat) M1) E) (hg : Gl X "range") (hm : X.mg "range" = none)
    (hs : starEach [a, b] X.env = [(false, eval a X.env), (false, eval b X.env)] := by rfl) (hs2 : starEach [b] X.env = [(false, eval b X.env)] := by rfl) : IJ X tg (.Call (.Name "range" p1) [a, b] [] pos) st M QI E := fun Mx F σ H Wx p => by
  refine WI.of (pi_range2 hg hm pa_W hs hs2) ?_
  refine h.bind p fun ds M1 F1 vs H1 ⟨i, j, hd, hb, q⟩ e1 r1 p1 => ?_
  subst hd
  obtain ⟨v, w, rfl, r, r'⟩ := ra2 r1
  cases r; cases r'
  exact ⟨i, j, rfl, ⟨by omega, by omega, by omega, by omega⟩, _, M1, F1, q, e1, p1.m, itok_range i _⟩
/-- i, x of a list -/
def enumD (k : Nat) : List D → List D
  | [] => []
  | d :: ds => .tup [.int (k : Int), d] :: enumD (k + 1) ds
theorem enumD_len (ds : List D) : ∀ k, (enumD k ds).length = ds.length := by
  induction ds with
  | nil => intro k; rfl
  | cons d ds ih => intro k; simp [enumD, ih]
theorem enumD_get {ds : List D} : ∀ {k i : Nat} {d : D}, (enumD k ds)[i]? = some d → ∃ e, ds[i]? = some e ∧ d = .tup [.int ((k + i : Nat) : Int), e] := by
  induction ds with
  | nil => intro k i d h; simp [enumD] at h
  | cons x ds ih =>
    intro k i d h
    cases i with
    | zero => simp [enumD] at h; exact ⟨x, rfl, by simpa using h.symm⟩
    | succ i =>
      obtain ⟨e, h1, h2⟩ := ih (k := k + 1) (i := i) (by simpa [enumD] using h)
      exact ⟨e, by simpa using h1, by rw [h2]; congr 4; omega⟩
theorem pairNew {K : PySem.W.Frag} {M : Mem} {F H : Hp} {T : Addr} {x y : V} {d e : D} (m : RelM K M F H) (hT : H T = none) (r1 : R K F x d) (r2 : R K F y e) : ∃ F', Ex F F' ∧ R K F' (.ref T) (.tup [d, e]) ∧ RelM K M F' (upd H T (.tup [x, y])) := by
  have ex := Ex.new (o := .tup [x, y]) (exBack m.ex hT)
  have ra : RA K (upd F T (.tup [x, y])) [x, y] [d, e] := RA.cons (r1.mono ex) (RA.cons (r2.mono ex) RA.nil)
  exact ⟨_, ex, .tup (SqT.of upd_same) ra.1 ra.2, m.newF hT⟩
theorem ij_enum {p1 tpos : Pos} {elts : List Expr} {kk : Nat} (h : AJ X [a] st M (fun ds M1 => ∃ xs, (ds = [.lst xs] ∨ ds = [.fz xs]) ∧ QI (enumD 0 xs) M1) E) (hg : Gl X "enumerate") (hm : X.mg "enumerate" = none) (hs : starEach [a] X.env = [(false, eval a X.env)] := by rfl) :
    IJ X (.Tuple elts kk tpos) (.Call (.Name "enumerate" p1) [a] [] pos) st M QI E := fun Mx F σ H Wx p => by
  refine WI.of (pi_enum hg hm pa_W hs) ?_
  refine h.bind p fun ds M1 F1 vs H1 ⟨xs, hd, q⟩ e1 r1 p1 => ?_
  have key : ∃ a ws, vs = [.ref a] ∧ SqL X.K F1 a ws ∧ RA X.K F1 ws xs := by
    rcases hd with rfl | rfl
    · obtain ⟨v, rfl, r⟩ := ra1 r1
      cases r with
      | lst h1 h2 h3 => exact ⟨_, _, rfl, SqL.of h1, h2, h3⟩
    · obtain ⟨v, rfl, r⟩ := ra1 r1
      cases r with
      | @fz a xs ds h1 h2 h3 => exact ⟨_, _, rfl, h1, h2, h3⟩
  obtain ⟨a, ws, rfl, hF, ra⟩ := key
  refine ⟨a, ws, rfl, ex_l p1.m.ex hF, enumD 0 xs, M1, F1, q, e1, p1.m, ?_⟩
  exact {
    go := fun i d F' H M hd ex m => by
      obtain ⟨e, he, rfl⟩ := enumD_get hd
      obtain ⟨v, hv, rv⟩ := ra.get he
      have hs : SqL X.K H a ws := ex_l (ex.trans m.ex) hF
      exact ⟨⟨ws, v, hs, hv⟩, fun x H' ⟨T, y, e1, hT, e2, hy⟩ => by
        subst e1 e2
        have := hy ws hs
        rw [hv] at this
        cases this
        rw [Nat.zero_add]
        exact pairNew m hT (.int _) (rv.mono ex)⟩
    stop := fun F' H M ex m => ⟨ws, ex_l (ex.trans m.ex) hF, by rw [enumD_len, ra.1]; exact Nat.le_refl _⟩ }
/-- x, y of two lists, two tuples -/
def zipD : List D → List D → List D
  | x :: xs, y :: ys => .tup [x, y] :: zipD xs ys
  | _, _ => []
theorem zipD_len : ∀ xs ys : List D, (zipD xs ys).length = min xs.length ys.length
  | [], _ => by simp [zipD]
  | _ :: _, [] => by simp [zipD]
  | x :: xs, y :: ys => by simp [zipD, zipD_len xs ys]
theorem zipD_get : ∀ {xs ys : List D} {i : Nat} {d : D}, (zipD xs ys)[i]? = some d → ∃ x y, xs[i]? = some x ∧ ys[i]? = some y ∧ d = .tup [x, y]
  | [], _, _, _, h => by simp [zipD] at h
  | _ :: _, [], _, _, h => by simp [zipD] at h
  | x :: xs, y :: ys, 0, d, h => by simp [zipD] at h; exact ⟨x, y, rfl, rfl, h.symm⟩
  | x :: xs, y :: ys, i + 1, d, h => by
    obtain ⟨a, b, h1, h2, h3⟩ := zipD_get (xs := xs) (ys := ys) (i := i) (by simpa [zipD] using h)
    exact ⟨a, b, by simpa using h1, by simpa using h2, h3⟩
theorem s1_for {body : List Stmt} {js : List Nat} (hc : X.calm = true) (h : IJ X tg iter st M (fun ds M1 => ∃ I : Nat → Sls → Mem → Prop, I 0 st M1 ∧
      (∀ i d st' M', ds[i]? = some d → I i st' M' → GJ X tg js d st' M' (fun st2 M2 => SJ X body st2 M2 { P with nx := I (i + 1), ct := I (i + 1), bk := P.nx })) ∧ ∀ st' M', I ds.length st' M' → P.nx st' M') P.er)
    (hs : ∀ x, foldedSetIterable iter X.env x = pure x := by intro _; rfl) : S1 X (.For tg iter body [] pos) st M P := fun Mx F σ H Wx p hp => by
  refine WS.of (ps_for hp hc pi_W pg_W pss_W hs) ?_
  show WI X tg iter σ H _
  intro pins s I0
  refine thn (h Mx F σ H Wx p pins s I0) fun v s1 h1 => thn h1 fun itv s2 ⟨it, fp, tn, J, H2, e0, I2, T, st2, f2, ds, M1, F1, ⟨I, i0, turn, fin⟩, ex1, m1, ok⟩ => ?_
  refine ⟨it, fp, tn, J, H2, e0, I2, T, st2, f2, fun i m σ' H' => m = ds.length - i ∧ i ≤ ds.length ∧ ∃ st' M' F', I i st' M' ∧ Ex F1 F' ∧ Slots X.K F' st' σ' ∧ RelM X.K (M' ++ Mx) F' H', ⟨ds.length, by simp, Nat.zero_le _, st, M1, F1, i0, Ex.refl F1, p.sl.mono ex1, m1⟩, ?_⟩
  rintro i m σ' H' ⟨rfl, hi, st', M', F', iv, ex', sl', m'⟩
  by_cases hlt : i < ds.length
  · obtain ⟨g1, g2⟩ := ok.go i ds[i] F' H' (M' ++ Mx) (by simp [hlt]) ex' m'
    refine .inr ⟨g1, Sst X.K Mx F' (I (i + 1)), fun σ2 H2 ⟨st2, M2, F2, q2, e2, sl2, m2⟩ => ⟨ds.length - (i + 1), by omega, rfl, hlt, st2, M2, F2, q2, ex'.trans e2, sl2, m2⟩, fun x H2 hy => ?_⟩
    obtain ⟨F2, ex2, rx, m2⟩ := g2 x H2 hy
    intro pins s u I3 ru
    refine thn (turn i ds[i] st' M' (by simp [hlt]) iv Mx F2 σ' H2 x (sl'.mono ex2) ⟨m2, p.un⟩ rx pins s u I3 ru) fun _ s3 ⟨σ3, H3, I4, _, _, st3, M3, F3, q3, e3, sl3, m3⟩ => ⟨σ3, H3, I4, ?_⟩
    have := q3 Mx F3 σ3 H3 Wx (preOf p (((ex1.trans ex').trans ex2).trans e3) sl3 m3) hp
    exact this.imp (fun _ _ q => q.mono (ex2.trans e3)) (fun _ _ q => q.mono ((((ex1.trans ex').trans ex2).trans e3))) (fun _ _ q => q.mono ((((ex1.trans ex').trans ex2).trans e3))) (fun _ _ q => q.mono (ex2.trans e3))
  · have e : i = ds.length := by omega
    subst e
    exact .inl ⟨ok.stop F' H' _ ex' m', sstOf (fin _ _ iv) (ex1.trans ex') sl' m'⟩
theorem s1_while {body : List Stmt} (I : Nat → Sls → Mem → Prop) (m0 : Nat) (h0 : I m0 st M)
    (turn : ∀ m st' M', I m st' M' → TJ X c st' M' (fun k M1 => if k = true then SJ X body st' M1 { P with nx := fun st2 M2 => ∃ m', m' < m ∧ I m' st2 M2, ct := fun st2 M2 => ∃ m', m' < m ∧ I m' st2 M2, bk := P.nx } else P.nx st' M1) P.er) : S1 X (.While c body [] pos) st M P := fun Mx F σ H Wx p hp => by
  refine WS.of (ps_while hp pt_W pss_W) ?_
  refine ⟨fun m σ' H' => ∃ st' M' F', I m st' M' ∧ Ex F F' ∧ Slots X.K F' st' σ' ∧ RelM X.K (M' ++ Mx) F' H', ⟨m0, st, M, F, h0, Ex.refl F, p.sl, p.m⟩, ?_⟩
  rintro m σ' H' ⟨st', M', F', iv, ex', sl', m'⟩
  refine (turn m st' M' iv).bind (preOf p ex' sl' m') fun k M1 F1 H1 q e1 p1 => ?_
  cases k with
  | true =>
    refine ⟨Sst X.K Mx F1 (fun st2 M2 => ∃ m', m' < m ∧ I m' st2 M2), fun σ2 H2 ⟨st2, M2, F2, ⟨m2, l2, q2⟩, e2, sl2, r2⟩ => ⟨m2, l2, st2, M2, F2, q2, (ex'.trans e1).trans e2, sl2, r2⟩, ?_⟩
    have := (show SJ X body st' M1 _ from q) Mx F1 σ' H1 Wx p1 hp
    exact this.imp (fun _ _ q => q) (fun _ _ q => q.mono (ex'.trans e1)) (fun _ _ q => q.mono (ex'.trans e1)) (fun _ _ q => q)
  | false => exact sstOf q (ex'.trans e1) p1.sl p1.m
end
end SL

set_option maxHeartbeats 2000000
/-! enumerate and zip over lists and tuples, in any mix. -/
namespace SL
open PySem PySem.Spec PyProof.Rows L2 Evl

/-! ### a list or a tuple that is walked -/
def Sq (k : Bool) (K : PySem.W.Frag) (H : Hp) (a : Addr) (xs : List V) : Prop := match k with
  | true => SqL K H a xs
  | false => SqT K H a xs
def Rw (k : Bool) (h : Heap) (a : Addr) (its : Array Value) : Prop := match k with
  | true => h.IsList a its
  | false => h.IsTuple a its
def Rit (k : Bool) (h : Heap) (it a : Addr) (i : Nat) : Prop := match k with
  | true => h.IsListIter it a i
  | false => h.IsTupleIter it a i
def itObj (k : Bool) (a : Addr) : Obj := match k with
  | true => { cls := .type "list_iterator", data := .fields #[.ref a, .int 0 0] }
  | false => { cls := .type "tuple_iterator", data := .fields #[.ref a, .int 0 0] }
theorem rit_new (k : Bool) {h : Heap} {it a : Addr} (e : h.get? it = some (itObj k a)) : Rit k h it a 0 := by
  cases k <;> exact ⟨_, e, rfl, rfl⟩
theorem rit_at {k : Bool} {h h' : Heap} {it a : Addr} {i : Nat} (r : Rit k h it a i) (q : ∀ o, h.get? it = some o → h'.get? it = some o) : Rit k h' it a i := by
  cases k with
  | true => exact Heap.IsListIter.at r q
  | false => exact Heap.IsTupleIter.at r q
theorem rit_there {k : Bool} {h : Heap} {it a : Addr} {i : Nat} (r : Rit k h it a i) : ∃ o, h.get? it = some o ∧ ∀ v, o.data ≠ .cell v := by
  cases k with
  | true => obtain ⟨o, e, _, d⟩ := r; exact ⟨o, e, fun v z => by rw [d] at z; cases z⟩
  | false => obtain ⟨o, e, _, d⟩ := r; exact ⟨o, e, fun v z => by rw [d] at z; cases z⟩
theorem rw_lt {k : Bool} {h : Heap} {a : Addr} {its : Array Value} (r : Rw k h a its) : a < h.objs.size := by
  cases k with
  | true => obtain ⟨o, e, _⟩ := r; exact Heap.lt_size e
  | false => obtain ⟨o, e, _⟩ := r; exact Heap.lt_size e
theorem begins_k (k : Bool) (a : Addr) (its : Array Value) : Begins (.ref a) (itObj k a) fun h => Rw k h a its := by
  cases k with
  | true => exact begins_list a its
  | false => exact begins_tuple a its
theorem draws_k {prog : Program} {w : World} {A : Around} (k : Bool) (hh : A.handled = none) (it a : Addr) (hne : a ≠ it) (its : Array Value) : Draws prog w A it [it, a] its.size (fun i v => its[i]? = some v) (fun i h => Rit k h it a i ∧ Rw k h a its) := by
  cases k with
  | true => exact Draws.list hh it a hne its
  | false => exact Draws.tuple hh it a hne its
section
variable {X : Cx} {pins : List (Addr × Obj)} {σ : L2.St} {H : Hp} {s : Shared}
theorem sq_raw {k : Bool} {a : Addr} {xs : List V} (I : Inv X pins σ H s) (h : Sq k X.K H a xs) : ∃ its : List Value, Vals xs its ∧ Rw k s.heap a its.toArray := by
  cases k with
  | true => obtain ⟨its, rv, p, _⟩ := I.list h; exact ⟨its, rv, p.isList⟩
  | false => obtain ⟨its, rv, p, _⟩ := I.tuple h; exact ⟨its, rv, p⟩
theorem sq_inj {k : Bool} {a : Addr} {xs ys : List V} (I : Inv X pins σ H s) (h : Sq k X.K H a xs) (h' : Sq k X.K H a ys) : xs = ys := by
  cases k with
  | true => exact I.list_inj h h'
  | false => exact I.tuple_inj h h'
end
theorem sq_ex {k : Bool} {K : PySem.W.Frag} {H H' : Hp} {a : Addr} {xs : List V} (e : Ex H H') (h : Sq k K H a xs) : Sq k K H' a xs := by
  cases k with
  | true => exact ex_l e h
  | false => exact ex_t e h
theorem sq_of {K : PySem.W.Frag} {F : Hp} {v : V} {ds : List D} {d : D} (hd : d = .lst ds ∨ d = .fz ds ∨ d = .tup ds) (r : R K F v d) : ∃ k a xs, v = .ref a ∧ Sq k K F a xs ∧ RA K F xs ds := by
  rcases hd with rfl | rfl | rfl
  · cases r with
    | @lst a xs ds h1 h2 h3 => exact ⟨true, a, xs, rfl, SqL.of h1, h2, h3⟩
  · cases r with
    | @fz a xs ds h1 h2 h3 => exact ⟨true, a, xs, rfl, h1, h2, h3⟩
  · cases r with
    | @tup a xs ds h1 h2 h3 => exact ⟨false, a, xs, rfl, h1, h2, h3⟩

/-! ### enumerate -/
def ItEn (K : PySem.W.Frag) (k : Bool) (k0 : Int) (a : Addr) : It :=
  ⟨fun i H => ∃ (xs : List V) (x : V), Sq k K H a xs ∧ xs[i]? = some x,
    fun i H v H' => ∃ T x, v = .ref T ∧ H T = none ∧ H' = upd H T (.tup [.int (k0 + (i : Int)), x]) ∧ ∀ xs, Sq k K H a xs → xs[i]? = some x,
    fun i H => ∃ xs : List V, Sq k K H a xs ∧ xs.length = i⟩
theorem turn_en {P : Program} {w : World} {K : PySem.W.Frag} {elts : List Expr} {kk : Nat} {tpos : Pos} (k : Bool) (k0 : Int) (a e it : Addr) :
    Turn P w K (.Tuple elts kk tpos) (ItEn K k k0 a) [e, it] e (fun i h => (∃ old, IsEnum h e it (k0 + (i : Int)) old) ∧ Rit k h it a i ∧ e ≠ it ∧ a ≠ it ∧ a ≠ e) where
  mem := by simp
  obj := fun i h st b hb => by
    obtain ⟨⟨old, he⟩, hr, _⟩ := st
    have e' : b = e ∨ b = it := by simpa using hb
    rcases e' with z | z
    · rw [z]; exact ⟨_, he, fun v q => nomatch q⟩
    · rw [z]; exact rit_there hr
  keep := fun i h h' st q => let ⟨⟨old, he⟩, hi, hne⟩ := st; ⟨⟨old, q e (by simp) _ he⟩, rit_at hi fun o z => q it (by simp) o z, hne⟩
  item := by
    intro X hP hw hK hc i pins s σ H E I hf st hg
    subst hP hw hK
    obtain ⟨hen, hit, n1, n2, n3⟩ := st
    obtain ⟨xs, x, hq, hx⟩ := hg
    obtain ⟨its, rv, p⟩ := sq_raw I hq
    obtain ⟨u, hu, ru⟩ := rv.get hx
    have G := GoesN.enumFrom (prog := X.prog) (w := X.w) (A := X.A) (elts := elts) (x1 := kk) (pos := tpos) k0 (draws_k (A := X.A.in1) k (I.ok.hd hc) it a n2 its.toArray) e n1 (by simp [n1, Ne.symm n3]) (by simp)
    have hi : i < its.toArray.size := by
      have := (List.getElem?_eq_some_iff.mp hu).1
      simpa using this
    refine G.goes i s _ E hi ⟨hen, hit, p⟩ fun v h' tk hY st' hk htk => ?_
    obtain ⟨T, t, x', rfl, hT, hx', ⟨oT, eT, cT, nT, dT⟩⟩ := hY
    have ex' : x' = u := by
      have : its.toArray[i]? = some u := by simpa using hu
      rw [this] at hx'
      exact (Option.some.inj hx').symm
    subst ex'
    have new : ObjOk X.prog X.w (upd H T (.tup [.int (k0 + (i : Int)), x])) h' T (.tup [.int (k0 + (i : Int)), x]) :=
      ⟨by show 2 ≤ sizeLine; decide, [.int (k0 + (i : Int)) t, x'], .cons ⟨_, rfl⟩ (.cons ru .nil), ⟨oT, eT, cT, nT, dT⟩⟩
    have I1 : Inv X pins σ (upd H T (.tup [.int (k0 + (i : Int)), x])) { s with heap := h', toks := tk } :=
      I.turnedNew (ch := [e, it]) (fun b ob hb q => hk b ob hb q) hf hT new
    have hT0 : H T = none := I.hok.fresh hT
    refine ⟨.ref T, _, I1, rfl, ⟨T, x, rfl, hT0, rfl, fun ys hy => by rw [sq_inj I hy hq]; exact hx⟩, ⟨st'.1, st'.2.1, n1, n2, n3⟩, fun b hb => ?_⟩
    obtain ⟨ob, hob, _⟩ : ∃ o, s.heap.get? b = some o ∧ ∀ v, o.data ≠ .cell v := by
      have e' : b = e ∨ b = it := by simpa using hb
      rcases e' with z | z
      · rw [z]; obtain ⟨old, he⟩ := hen; exact ⟨_, he, fun v q => nomatch q⟩
      · rw [z]; exact rit_there hit
    rw [upd_ne (Nat.ne_of_lt (Nat.lt_of_lt_of_le (Heap.lt_size hob) hT))]
    exact (hf b hb).1
  done := by
    intro X hP hw hK hc i pins s σ H E I hf st hg
    subst hP hw hK
    obtain ⟨hen, hit, n1, n2, n3⟩ := st
    obtain ⟨xs, hq, hx⟩ := hg
    obtain ⟨its, rv, p⟩ := sq_raw I hq
    have hl := rv.length
    have G := GoesN.enumFrom (prog := X.prog) (w := X.w) (A := X.A) (elts := elts) (x1 := kk) (pos := tpos) k0 (draws_k (A := X.A.in1) k (I.ok.hd hc) it a n2 its.toArray) e n1 (by simp [n1, Ne.symm n3]) (by simp)
    have ei : i = its.toArray.size := by simp; omega
    subst ei
    exact G.stops s _ E ⟨hen, hit, p⟩ fun h' tk hk _ => I.turnedL (t' := tk) (ch := [e, it]) (fun b o hb q => hk b o hb q) hf
  self := fun A i s Q E st h => let ⟨⟨_, he⟩, _⟩ := st; wpAny_pyIter_enum he h
set_option maxHeartbeats 4000000 in
theorem meets_enum1 {v : Value} {o : Obj} {G : Heap → Prop} (B : Begins v o G) :
    Meets (Builtin.«enumerate.__new__» ⟨[.type "enumerate", v], []⟩) (fun _ R s => G s.heap ∧
      R (.ok (.ret (.ref (s.heap.push o).objs.size))) { s with heap := (s.heap.push o).push { cls := .type "enumerate", data := .fields #[.none, .bool false, .ref s.heap.objs.size, rawInt 0, .none, .none] } }) :=
  .of_wp fun prog w A R s h => by
    obtain ⟨hp, g, d, tk, os⟩ := s
    obtain ⟨h1, h⟩ := h
    have hsub := sub_enumerate
    have begun : ∀ {A' : Around} {E : Value → Shared → Prop} {Q : Value → Shared → Prop}, Q (.ref hp.objs.size) ⟨hp.push o, g, d, tk, os⟩ → wpAny (model prog w) A' (pyIter v) Q E ⟨hp, g, d, tk, os⟩ :=
      fun q => B.iter prog w _ _ ⟨hp, g, d, tk, os⟩ _ h1 q
    wp_walk using begun
    refine wpAny_stack_any fun st => wpAny_pure ?_
    split
    · rename_i c _ _ _ _ _
      cases (c == Value.type "enumerate") <;> (wp_walk using begun; exact ⟨_, rfl, h⟩)
    · wp_walk using begun
      exact ⟨_, rfl, h⟩
theorem enum1 {prog : Program} {w : World} {A : Around} {E : Value → Shared → Prop} {s : Shared} {v : Value} {o : Obj} {G : Heap → Prop} {Q : Value → Shared → Prop} (B : Begins v o G) (h1 : G s.heap)
    (h : ∀ h', IsEnum h' (s.heap.objs.size + 1) s.heap.objs.size 0 .none → h'.get? s.heap.objs.size = some o → h'.objs.size = s.heap.objs.size + 2 →
      (∀ b o, s.heap.get? b = some o → h'.get? b = some o) → Q (.ref (s.heap.objs.size + 1)) { s with heap := h' }) :
    wpAny (model prog w) A (call (.type "enumerate") [v]) Q E s := by
  refine callType_new F.called_enumerate (by decide) (F.typeCall_enumerate_1 _) (F.newCall_enumerate_1 _) (fun obj => F.args_object_init_2 obj _) F.entry_enumerate_new (meets_enum1 B) ⟨h1, ?_⟩
  have hz : (s.heap.push o).objs.size = s.heap.objs.size + 1 := Heap.size_push ..
  show _ ∧ _
  rw [hz]
  have he : IsEnum ((s.heap.push o).push { cls := .type "enumerate", data := .fields #[.none, .bool false, .ref s.heap.objs.size, rawInt 0, .none, .none] }) (s.heap.objs.size + 1) s.heap.objs.size 0 .none := by
    have q := Heap.get?_push_size (s.heap.push o) (o := { cls := .type "enumerate", data := .fields #[.none, .bool false, .ref s.heap.objs.size, rawInt 0, .none, .none] }) rfl
    rw [hz] at q
    exact q
  exact ⟨⟨_, he, rfl⟩, h _ he (Heap.get?_push_of_some _ (Heap.get?_push_size _ B.free)) (by rw [Heap.size_push, hz]) fun b o x => Heap.get?_push_of_some _ (Heap.get?_push_of_some _ x)⟩
section
variable {X : Cx} {a b : Expr} {st : Sls} {M : Mem} {E : EK} {QI : List D → Mem → Prop}
def iEn1 (K : PySem.W.Frag) (ta : TA) : TI := fun σ H R => ta σ H fun vs H1 => ∃ k a xs, vs = [.ref a] ∧ Sq k K H1 a xs ∧ R (ItEn K k 0 a) H1
theorem pi_en1 {p pos tpos : Pos} {elts : List Expr} {kk : Nat} {ta : TA} (hg : Gl X "enumerate") (hm : X.mg "enumerate" = none) (ha : PA X [a] ta) (hs : starEach [a] X.env = [(false, eval a X.env)] := by rfl) :
    PI X (.Tuple elts kk tpos) (.Call (.Name "enumerate" p) [a] [] pos) (iEn1 X.K ta) := by
  refine ⟨fun pins s σ H R I h => ?_⟩
  refine Call_ (ld_blt I hg hm boot_enumerate (PyProof.Rows.callWith_type1 (thn (ha.run pos pins s σ H _ I h) fun us s1 ⟨vs, H1, I1, r1, q1⟩ => ?_) hs rfl))
  obtain ⟨k, c, xs, ex, hq, q⟩ := q1
  subst ex
  cases r1 with
  | cons r rr =>
    cases rr
    cases r
    obtain ⟨its, rv, p'⟩ := sq_raw I1 hq
    refine enum1 (begins_k k c its.toArray) p' fun h' he hit hsz hk => wpAny_pyIter_enum he ?_
    have I2 : Inv X pins σ H1 { s1 with heap := h' } := I1.kept (t' := s1.toks) hk
    have hlt := rw_lt p'
    refine ⟨s1.heap.objs.size + 1, [s1.heap.objs.size + 1, s1.heap.objs.size], _, _, H1, rfl, I2, turn_en k 0 c (s1.heap.objs.size + 1) s1.heap.objs.size, ⟨⟨.none, by simpa using he⟩, rit_new k hit, Nat.succ_ne_self _, Nat.ne_of_lt hlt, Nat.ne_of_lt (Nat.lt_succ_of_lt hlt)⟩, fun b hb => ?_, q⟩
    have e' : b = s1.heap.objs.size + 1 ∨ b = s1.heap.objs.size := by simpa using hb
    have hle : s1.heap.objs.size ≤ b := by
      rcases e' with z | z
      · rw [z]; exact Nat.le_add_right _ _
      · rw [z]; exact Nat.le_refl _
    exact I1.fpOk hle (I1.hok.fresh hle)
/-- the pairs from k on -/
def enumF (k : Int) : List D → List D
  | [] => []
  | d :: ds => .tup [.int k, d] :: enumF (k + 1) ds
theorem enumF_len (ds : List D) : ∀ k, (enumF k ds).length = ds.length := by
  induction ds with
  | nil => intro k; rfl
  | cons d ds ih => intro k; simp [enumF, ih]
theorem enumF_get {ds : List D} : ∀ {k : Int} {i : Nat} {d : D}, (enumF k ds)[i]? = some d → ∃ e, ds[i]? = some e ∧ d = .tup [.int (k + (i : Int)), e] := by
  induction ds with
  | nil => intro k i d h; simp [enumF] at h
  | cons x ds ih =>
    intro k i d h
    cases i with
    | zero => simp [enumF] at h; exact ⟨x, rfl, by simpa using h.symm⟩
    | succ i =>
      obtain ⟨e, h1, h2⟩ := ih (k := k + 1) (i := i) (by simpa [enumF] using h)
      refine ⟨e, by simpa using h1, ?_⟩
      rw [h2]
      have : k + 1 + (i : Int) = k + ((i + 1 : Nat) : Int) := by omega
      rw [this]
theorem itok_en {K : PySem.W.Frag} {F : Hp} {k : Bool} {k0 : Int} {c : Addr} {vs : List V} {ds : List D} (h : Sq k K F c vs) (r : RA K F vs ds) : ItOk K (ItEn K k k0 c) (enumF k0 ds) F where
  go := fun i d F' H M hd ex m => by
    obtain ⟨e, he, rfl⟩ := enumF_get hd
    obtain ⟨v, hv, rv⟩ := r.get he
    have hs : Sq k K H c vs := sq_ex (ex.trans m.ex) h
    exact ⟨⟨vs, v, hs, hv⟩, fun x H' ⟨T, y, e1, hT, e2, hy⟩ => by
      subst e1 e2
      have := hy vs hs
      rw [hv] at this
      cases this
      exact pairNew m hT (.int _) (rv.mono ex)⟩
  stop := fun F' H M ex m => ⟨vs, sq_ex (ex.trans m.ex) h, by rw [enumF_len, r.1]⟩
theorem ij_enumF {p1 pos tpos : Pos} {elts : List Expr} {kk : Nat} (h : AJ X [a] st M (fun ds M1 => ∃ d xs, ds = [d] ∧ (d = .lst xs ∨ d = .fz xs ∨ d = .tup xs) ∧ QI (enumF 0 xs) M1) E) (hg : Gl X "enumerate") (hm : X.mg "enumerate" = none) (hs : starEach [a] X.env = [(false, eval a X.env)] := by rfl) :
    IJ X (.Tuple elts kk tpos) (.Call (.Name "enumerate" p1) [a] [] pos) st M QI E := fun Mx F σ H Wx p => by
  refine WI.of (pi_en1 hg hm pa_W hs) ?_
  refine h.bind p fun ds M1 F1 vs H1 ⟨d, xs, ed, hd, q⟩ e1 r1 p1 => ?_
  subst ed
  obtain ⟨v, rfl, r⟩ := ra1 r1
  obtain ⟨k, c, ws, rfl, hF, ra⟩ := sq_of hd r
  exact ⟨k, c, ws, rfl, sq_ex p1.m.ex hF, enumF 0 xs, M1, F1, q, e1, p1.m, itok_en hF ra⟩

/-! ### zip -/
def ItZp (K : PySem.W.Frag) (k1 k2 : Bool) (a b : Addr) : It :=
  ⟨fun i H => ∃ (xs ys : List V) (x y : V), Sq k1 K H a xs ∧ Sq k2 K H b ys ∧ xs[i]? = some x ∧ ys[i]? = some y,
    fun i H v H' => ∃ T x y, v = .ref T ∧ H T = none ∧ H' = upd H T (.tup [x, y]) ∧ (∀ xs, Sq k1 K H a xs → xs[i]? = some x) ∧ ∀ ys, Sq k2 K H b ys → ys[i]? = some y,
    fun i H => ∃ xs ys : List V, Sq k1 K H a xs ∧ Sq k2 K H b ys ∧ i = min xs.length ys.length⟩
end
/-- the five cells of a zip stand apart -/
structure ZA (z TI TO i1 i2 a b : Addr) : Prop where
  sep : ZipSep2 z TI TO i1 i2 [i1, a] [i2, b]
  ai : a ≠ i1
  bi : b ≠ i2
theorem turn_zp {P : Program} {w : World} {K : PySem.W.Frag} {elts : List Expr} {kk : Nat} {tpos : Pos} {k1 k2 : Bool} {a b z TI TO i1 i2 : Addr} (S : ZA z TI TO i1 i2 a b) :
    Turn P w K (.Tuple elts kk tpos) (ItZp K k1 k2 a b) [z, TI, TO, i1, i2] z (fun i h => IsZip h z TI TO .none ∧ IsTupOf2 h TI (.ref i1) (.ref i2) ∧ (∃ x y, IsTupOf2 h TO x y) ∧ Rit k1 h i1 a i ∧ Rit k2 h i2 b i) where
  mem := by simp
  obj := fun i h st c hc => by
    obtain ⟨hz, hTI, ⟨x, y, hTO⟩, h1, h2⟩ := st
    have e' : c = z ∨ c = TI ∨ c = TO ∨ c = i1 ∨ c = i2 := by simpa using hc
    rcases e' with q | q | q | q | q
    · rw [q]; exact ⟨_, hz, fun v q => nomatch q⟩
    · rw [q]; exact ⟨_, hTI, fun v q => nomatch q⟩
    · rw [q]; exact ⟨_, hTO, fun v q => nomatch q⟩
    · rw [q]; exact rit_there h1
    · rw [q]; exact rit_there h2
  keep := fun i h h' st q => by
    obtain ⟨hz, hTI, ⟨x, y, hTO⟩, h1, h2⟩ := st
    exact ⟨q z (by simp) _ hz, q TI (by simp) _ hTI, ⟨x, y, q TO (by simp) _ hTO⟩, rit_at h1 fun o e => q i1 (by simp) o e, rit_at h2 fun o e => q i2 (by simp) o e⟩
  item := by
    intro X hP hw hK hc i pins s σ H E I hf st hg
    subst hP hw hK
    obtain ⟨xs, ys, x, y, hqx, hqy, hx, hy⟩ := hg
    obtain ⟨its, rv, p⟩ := sq_raw I hqx
    obtain ⟨its2, rv2, p2⟩ := sq_raw I hqy
    obtain ⟨u, hu, ru⟩ := rv.get hx
    obtain ⟨u2, hu2, ru2⟩ := rv2.get hy
    have G := GoesN.zip2 (prog := X.prog) (w := X.w) (A := X.A) (elts := elts) (x1 := kk) (pos := tpos) S.sep (draws_k (A := X.A.in1) k1 (I.ok.hd hc) i1 a S.ai its.toArray) (draws_k (A := X.A.in1) k2 (I.ok.hd hc) i2 b S.bi its2.toArray)
    have hi1 := (List.getElem?_eq_some_iff.mp hu).1
    have hi2 := (List.getElem?_eq_some_iff.mp hu2).1
    have hi : i < min its.toArray.size its2.toArray.size := by simp only [List.size_toArray]; omega
    have stc := st
    obtain ⟨hz, hTI, hTO, h1, h2⟩ := st
    refine G.goes i s _ E hi ⟨hz, hTI, hTO, ⟨h1, p⟩, ⟨h2, p2⟩⟩ fun v h' tk hY st' hk htk => ?_
    obtain ⟨T, x', y', rfl, hT, hx', hy', ⟨oT, eT, cT, nT, dT⟩⟩ := hY
    have q1 : its.toArray[i]? = some u := by simpa using hu
    have q2 : its2.toArray[i]? = some u2 := by simpa using hu2
    rw [q1] at hx'
    rw [q2] at hy'
    cases hx'
    cases hy'
    have new : ObjOk X.prog X.w (upd H T (.tup [x, y])) h' T (.tup [x, y]) := ⟨by show 2 ≤ sizeLine; decide, [u, u2], .cons ru (.cons ru2 .nil), ⟨oT, eT, cT, nT, dT⟩⟩
    have I1 : Inv X pins σ (upd H T (.tup [x, y])) { s with heap := h', toks := tk } :=
      I.turnedNew (ch := [z, TI, TO, i1, i2]) (fun b ob hb q => hk b ob (fun hm => hb (by simp only [List.mem_cons, List.not_mem_nil, or_false] at hm ⊢; rcases hm with h | h | h | h <;> simp [h])) q) hf hT new
    have hT0 : H T = none := I.hok.fresh hT
    obtain ⟨g1, g2, g3, g4, g5⟩ := st'
    refine ⟨.ref T, _, I1, rfl, ⟨T, x, y, rfl, hT0, rfl, fun l hl => by rw [sq_inj I hl hqx]; exact hx, fun l hl => by rw [sq_inj I hl hqy]; exact hy⟩, ⟨g1, g2, g3, g4.1, g5.1⟩, fun c hcm => ?_⟩
    obtain ⟨ob, hob, _⟩ : ∃ o, s.heap.get? c = some o ∧ ∀ v, o.data ≠ .cell v := by
      obtain ⟨hz, hTI, ⟨x, y, hTO⟩, h1, h2⟩ := stc
      have e' : c = z ∨ c = TI ∨ c = TO ∨ c = i1 ∨ c = i2 := by simpa using hcm
      rcases e' with q | q | q | q | q
      · rw [q]; exact ⟨_, hz, fun v q => nomatch q⟩
      · rw [q]; exact ⟨_, hTI, fun v q => nomatch q⟩
      · rw [q]; exact ⟨_, hTO, fun v q => nomatch q⟩
      · rw [q]; exact rit_there h1
      · rw [q]; exact rit_there h2
    rw [upd_ne (Nat.ne_of_lt (Nat.lt_of_lt_of_le (Heap.lt_size hob) hT))]
    exact (hf c hcm).1
  done := by
    intro X hP hw hK hc i pins s σ H E I hf st hg
    subst hP hw hK
    obtain ⟨xs, ys, hqx, hqy, ei⟩ := hg
    obtain ⟨its, rv, p⟩ := sq_raw I hqx
    obtain ⟨its2, rv2, p2⟩ := sq_raw I hqy
    have l1 := rv.length
    have l2 := rv2.length
    have G := GoesN.zip2 (prog := X.prog) (w := X.w) (A := X.A) (elts := elts) (x1 := kk) (pos := tpos) S.sep (draws_k (A := X.A.in1) k1 (I.ok.hd hc) i1 a S.ai its.toArray) (draws_k (A := X.A.in1) k2 (I.ok.hd hc) i2 b S.bi its2.toArray)
    have ei' : i = min its.toArray.size its2.toArray.size := by simp only [List.size_toArray]; omega
    subst ei'
    obtain ⟨hz, hTI, hTO, h1, h2⟩ := st
    exact G.stops s _ E ⟨hz, hTI, hTO, ⟨h1, p⟩, ⟨h2, p2⟩⟩ fun h' tk hk _ => I.turnedL (t' := tk) (ch := [z, TI, TO, i1, i2]) (fun b o hb q => hk b o (fun hm => hb (by simp only [List.mem_cons, List.not_mem_nil, or_false] at hm ⊢; rcases hm with h | h | h | h <;> simp [h])) q) hf
  self := fun A i s Q E st h => wpAny_pyIter_zip st.1 h
section
variable {X : Cx} {a b : Expr} {st : Sls} {M : Mem} {E : EK} {QI : List D → Mem → Prop}
def iZp (K : PySem.W.Frag) (ta : TA) : TI := fun σ H R => ta σ H fun vs H1 => ∃ k1 k2 a b xs ys, vs = [.ref a, .ref b] ∧ Sq k1 K H1 a xs ∧ Sq k2 K H1 b ys ∧ R (ItZp K k1 k2 a b) H1
theorem pi_zp {p pos tpos : Pos} {elts : List Expr} {kk : Nat} {ta : TA} (hg : Gl X "zip") (hm : X.mg "zip" = none) (ha : PA X [a, b] ta)
    (hs : starEach [a, b] X.env = (false, eval a X.env) :: starEach [b] X.env := by rfl) (hpl : (backTo pos (starEach [b] X.env)).any (·.1) = false := by rfl) :
    PI X (.Tuple elts kk tpos) (.Call (.Name "zip" p) [a, b] [] pos) (iZp X.K ta) := by
  refine ⟨fun pins s σ H R I h => ?_⟩
  refine Call_ (ld_blt I hg hm PyProof.Rows.boot_zip (PyProof.Rows.callWith_type1 (thn (ha.run pos pins s σ H _ I h) fun us s1 ⟨vs, H1, I1, r1, q1⟩ => ?_) hs hpl))
  obtain ⟨k1, k2, c, d, xs, ys, ex, hqx, hqy, q⟩ := q1
  subst ex
  cases r1 with
  | cons r rr =>
    cases rr with
    | cons r' rr =>
      cases rr
      cases r
      cases r'
      obtain ⟨its, rv, p1⟩ := sq_raw I1 hqx
      obtain ⟨its2, rv2, p2⟩ := sq_raw I1 hqy
      have hlt := rw_lt p1
      have hlt2 := rw_lt p2
      refine zip_begins2 (begins_k k1 c its.toArray) (begins_k k2 d its2.toArray) p1 p2 fun h' hz hTI hTO h1 h2 hsz hk => wpAny_pyIter_zip hz ?_
      have I2 : Inv X pins σ H1 { s1 with heap := h' } := I1.kept (t' := s1.toks) hk
      refine ⟨s1.heap.objs.size + 4, [s1.heap.objs.size + 4, s1.heap.objs.size + 2, s1.heap.objs.size + 3, s1.heap.objs.size, s1.heap.objs.size + 1], _, _, H1, rfl, I2,
        turn_zp (k1 := k1) (k2 := k2) (a := c) (b := d) ⟨zip_sep2 (by simpa using hlt) (by simpa using hlt2), Nat.ne_of_lt hlt, Nat.ne_of_lt (Nat.lt_succ_of_lt hlt2)⟩, ⟨hz, hTI, ⟨_, _, hTO⟩, rit_new k1 h1, rit_new k2 h2⟩, fun c hcm => ?_, q⟩
      have e' : c = s1.heap.objs.size + 4 ∨ c = s1.heap.objs.size + 2 ∨ c = s1.heap.objs.size + 3 ∨ c = s1.heap.objs.size ∨ c = s1.heap.objs.size + 1 := by simpa using hcm
      have hle : s1.heap.objs.size ≤ c := by
        rcases e' with z | z | z | z | z <;> rw [z] <;> first | exact Nat.le_add_right _ _ | exact Nat.le_refl _
      exact I1.fpOk hle (I1.hok.fresh hle)
theorem itok_zp {K : PySem.W.Frag} {F : Hp} {k1 k2 : Bool} {c d : Addr} {vs ws : List V} {xs ys : List D} (h1 : Sq k1 K F c vs) (h2 : Sq k2 K F d ws) (r1 : RA K F vs xs) (r2 : RA K F ws ys) : ItOk K (ItZp K k1 k2 c d) (zipD xs ys) F where
  go := fun i e F' H M he ex m => by
    obtain ⟨x, y, hx, hy, rfl⟩ := zipD_get he
    obtain ⟨v, hv, rv⟩ := r1.get hx
    obtain ⟨w, hw, rw'⟩ := r2.get hy
    have s1 : Sq k1 K H c vs := sq_ex (ex.trans m.ex) h1
    have s2 : Sq k2 K H d ws := sq_ex (ex.trans m.ex) h2
    exact ⟨⟨vs, ws, v, w, s1, s2, hv, hw⟩, fun x H' ⟨T, x1, y1, e1, hT, e2, g1, g2⟩ => by
      subst e1 e2
      have q1 := g1 vs s1
      have q2 := g2 ws s2
      rw [hv] at q1
      rw [hw] at q2
      cases q1
      cases q2
      exact pairNew m hT (rv.mono ex) (rw'.mono ex)⟩
  stop := fun F' H M ex m => ⟨vs, ws, sq_ex (ex.trans m.ex) h1, sq_ex (ex.trans m.ex) h2, by rw [zipD_len, r1.1, r2.1]⟩
theorem ij_zip {p1 pos tpos : Pos} {elts : List Expr} {kk : Nat} (h : AJ X [a, b] st M (fun ds M1 => ∃ d e xs ys, ds = [d, e] ∧ (d = .lst xs ∨ d = .fz xs ∨ d = .tup xs) ∧ (e = .lst ys ∨ e = .fz ys ∨ e = .tup ys) ∧ QI (zipD xs ys) M1) E) (hg : Gl X "zip") (hm : X.mg "zip" = none)
    (hs : starEach [a, b] X.env = (false, eval a X.env) :: starEach [b] X.env := by rfl) (hpl : (backTo pos (starEach [b] X.env)).any (·.1) = false := by rfl) :
    IJ X (.Tuple elts kk tpos) (.Call (.Name "zip" p1) [a, b] [] pos) st M QI E := fun Mx F σ H Wx p => by
  refine WI.of (pi_zp hg hm pa_W hs hpl) ?_
  refine h.bind p fun ds M1 F1 vs H1 ⟨d, e, xs, ys, ed, hd, he, q⟩ e1 r1 p1 => ?_
  subst ed
  obtain ⟨v, w, rfl, r, r'⟩ := ra2 r1
  obtain ⟨k1, c, vs, rfl, hF, ra⟩ := sq_of hd r
  obtain ⟨k2, c2, ws, rfl, hF2, ra'⟩ := sq_of he r'
  exact ⟨k1, k2, c, c2, vs, ws, rfl, sq_ex p1.m.ex hF, sq_ex p1.m.ex hF2, zipD xs ys, M1, F1, q, e1, p1.m, itok_zp hF hF2 ra ra'⟩
end
end SL

set_option maxHeartbeats 2000000
/-! Methods of owned lists, stores at places, freezing, comprehensions. -/
namespace SL
open PySem PySem.Spec PyProof.Rows L2 Evl

section
variable {X : Cx} {e a b c : Expr} {es : List Expr} {st : Sls} {M Mx : Mem} {E : EK} {Q : DK} {F F' H H' : Hp} {σ : L2.St} {Wx : WX} {P : Post} {pos : Pos} {xs ys : List D} {d : D} {l : Addr} {K : PySem.W.Frag} {o o' : MO}

theorem own_at (m : RelM K (M ++ Mx) F H) {n : Nat} (hn : M[n]? = some (l, o)) : F l = none ∧ MOk K F H l o := m.own (l, o) (List.mem_append_left _ (List.mem_of_getElem? hn))
theorem set_app {n : Nat} {p : Addr × MO} (hn : M[n]? = some p) (q : Addr × MO) : (M ++ Mx).set n q = M.set n q ++ Mx := by
  rw [List.set_append_left]
  exact (List.getElem?_eq_some_iff.mp hn).1
theorem get_app {n : Nat} {p : Addr × MO} (hn : M[n]? = some p) : (M ++ Mx)[n]? = some p := by
  rw [List.getElem?_append_left (List.getElem?_eq_some_iff.mp hn).1]; exact hn
/-- an owned object has been written -/
theorem rel_write {n : Nat} {u : HO} (m : RelM K (M ++ Mx) F H) (hn : M[n]? = some (l, o)) (hu : MOk K F (upd H l u) l o') : RelM K (M.set n (l, o') ++ Mx) F (upd H l u) := by
  have z := m.write (get_app (Mx := Mx) hn) hu
  rw [set_app hn] at z
  exact z
theorem pst_write {n : Nat} {u : HO} {v : V} (m : RelM K (M ++ Mx) F H) (hn : M[n]? = some (l, o)) (hu : MOk K F (upd H l u) l o') (r : R K F v d) (q : Q d (M.set n (l, o'))) : Pst K Mx F Q v (upd H l u) :=
  ⟨d, _, F, q, Ex.refl F, r, rel_write m hn hu⟩

theorem pst_wl {n : Nat} {v : V} {vs : List V} (m : RelM K (M ++ Mx) F H) (hn : M[n]? = some (l, o)) (hu : RA K F vs ys) (r : R K F v d) (q : Q d (M.set n (l, .lst ys))) : Pst K Mx F Q v (upd H l (.lst vs)) :=
  pst_write m hn (o' := .lst ys) ⟨vs, upd_same, hu⟩ r q
theorem rel_wl {n : Nat} {vs : List V} (m : RelM K (M ++ Mx) F H) (hn : M[n]? = some (l, o)) (hu : RA K F vs ys) : RelM K (M.set n (l, .lst ys) ++ Mx) F (upd H l (.lst vs)) :=
  rel_write m hn (o' := .lst ys) ⟨vs, upd_same, hu⟩

/-! ### methods -/
def HasTy (X : Cx) (T : String) (d : D) (M : Mem) : Prop := ∀ Mx F H v, At X M Mx F H → R X.K F v d → tyV X.K T v H
theorem ty_own (n : Nat) (hn : M[n]? = some (l, .lst xs)) : HasTy X "list" (.raw (.ref l)) M := fun Mx F H v p r => by
  cases r
  obtain ⟨_, vs, e, _⟩ := own_at p.m hn
  exact .inl ⟨rfl, vs, SqL.of e⟩
theorem ty_lst : HasTy X "list" (.lst xs) M := fun Mx F H v p r => by
  obtain ⟨a, vs, rfl, _, h1, _⟩ := r.list p.m.ex
  exact .inl ⟨rfl, vs, h1⟩
theorem ty_fz : HasTy X "list" (.fz xs) M := fun Mx F H v p r => by
  obtain ⟨a, vs, rfl, _, h1, _⟩ := r.locked p.m.ex
  exact .inl ⟨rfl, vs, h1⟩
theorem ty_str {x : Str} : HasTy X "str" (.str x) M := fun Mx F H v p r => by
  cases r; exact rfl
theorem ej_bm {T id : String} {name : Str} {apos cpos : Pos} (pa : PlainAttrs T) (slot : Slot T name id) (hty : typeOf (.builtin id) = pure (.type "method_descriptor"))
    (h : EJ X a st M (fun d M1 => HasTy X T d M1 ∧ AJ X (e :: es) st M1 (fun ds M2 => MtD X id T d ds M2 Q) E) E)
    (hbase : attributeBase a name X.env (eval a X.env) = eval a X.env := by rfl)
    (hfew : ((backTo cpos (starEach (e :: es) X.env)).all (fun x => !x.1) && (backToKw cpos (keywordEach [] X.env)).all (fun x => x.1.isSome)
      && decide ((e :: es).length + ([] : List Keyword).length + (if ([] : List Keyword).isEmpty then 0 else 1) < 30)) = true := by rfl)
    (hline : (apos.endLine == cpos.line) = true := by rfl) (hs : starEach (e :: es) X.env = (false, eval e X.env) :: starEach es X.env := by rfl) (hplain : (backTo cpos (starEach es X.env)).any (·.1) = false := by rfl) :
    EJ X (.Call (.Attribute a name apos) (e :: es) [] cpos) st M Q E := fun Mx F σ H Wx p => by
  refine W.of (pe_bm pa slot hty mt_W pe_W pa_W hbase hfew hline hs hplain) ?_
  refine h.bind p fun d M1 F1 v1 H1 ⟨ty, q1⟩ e1 r1 p1 => ⟨ty _ _ _ _ p1.at_ r1, ?_⟩
  exact q1.bind p1 fun ds M2 F2 vs H2 q2 e2 r2 p2 => q2 Mx F2 H2 v1 vs _ p2.at_ (r1.mono e2) r2 fun v H' z => z.mono (e1.trans e2)
theorem ej_bm0 {T id : String} {name : Str} {apos cpos : Pos} (pa : PlainAttrs T) (slot : Slot T name id) (hty : typeOf (.builtin id) = pure (.type "method_descriptor"))
    (h : EJ X a st M (fun d M1 => HasTy X T d M1 ∧ MtD X id T d [] M1 Q) E)
    (hbase : attributeBase a name X.env (eval a X.env) = eval a X.env := by rfl) (hline : (apos.endLine == cpos.line) = true := by rfl) : EJ X (.Call (.Attribute a name apos) [] [] cpos) st M Q E := fun Mx F σ H Wx p => by
  refine W.of (pe_bm0 pa slot hty mt_W pe_W hbase hline) ?_
  refine h.bind p fun d M1 F1 v1 H1 ⟨ty, q1⟩ e1 r1 p1 => ⟨ty _ _ _ _ p1.at_ r1, ?_⟩
  exact q1 Mx F1 H1 v1 [] _ p1.at_ r1 RA.nil fun v H' z => z.mono e1
theorem md_append (n : Nat) (hn : M[n]? = some (l, .lst xs)) (hz : xs.length ≤ 1000000) (q : Q .non (M.set n (l, .lst (xs ++ [d])))) : MtD X "list.append" "list" (.raw (.ref l)) [d] M Q := fun Mx F H v vs QV p r ra k => by
  cases r
  obtain ⟨y, rfl, ry⟩ := ra1 ra
  obtain ⟨_, ws, hH, rw'⟩ := own_at p.m hn
  refine rMt.of mt_append ⟨l, ws, y, rfl, rfl, hH, by rw [rw'.1, sizeLine_eq]; omega, k _ _ (pst_wl p.m hn (rw'.append (RA.cons ry RA.nil)) .non q)⟩
theorem md_extend (n : Nat) (hn : M[n]? = some (l, .lst xs)) (hz : xs.length + ys.length ≤ 1000000) (q : Q .non (M.set n (l, .lst (xs ++ ys)))) : MtD X "list.extend" "list" (.raw (.ref l)) [.lst ys] M Q := fun Mx F H v vs QV p r ra k => by
  cases r
  obtain ⟨y, rfl, ry⟩ := ra1 ra
  obtain ⟨b, zs, rfl, hb, _, rz⟩ := ry.list p.m.ex
  obtain ⟨_, ws, hH, rw'⟩ := own_at p.m hn
  refine rMt.of mt_extend ⟨l, b, ws, zs, rfl, rfl, hH, hb, by rw [rw'.1, rz.1, sizeLine_eq]; omega, k _ _ (pst_wl p.m hn (rw'.append rz) .non q)⟩
theorem md_pop (n : Nat) (hn : M[n]? = some (l, .lst (xs ++ [d]))) (q : Q d (M.set n (l, .lst xs))) : MtD X "list.pop" "list" (.raw (.ref l)) [] M Q := fun Mx F H v vs QV p r ra k => by
  cases r
  have := ra.nil_of
  subst this
  obtain ⟨_, ws, hH, rw'⟩ := own_at p.m hn
  have hl : ws.length = xs.length + 1 := by rw [rw'.1]; simp
  obtain ⟨y, hy, ry⟩ := rw'.get (i := xs.length) (d := d) (by simp)
  refine rMt.of mt_pop ⟨l, ws, y, rfl, rfl, hH, by rw [hl]; simpa using hy, k _ _ (pst_wl p.m hn ?_ ry q)⟩
  have z := rw'.take xs.length
  rw [List.take_left' rfl] at z
  rw [List.dropLast_eq_take, hl]
  exact z
theorem md_popAt (n : Nat) {i : Int} (hn : M[n]? = some (l, .lst xs)) (h0 : 0 ≤ i) (hi : xs[i.toNat]? = some d) (hs : xs.length ≤ 1000000) (q : Q d (M.set n (l, .lst (xs.eraseIdx i.toNat)))) : MtD X "list.pop" "list" (.raw (.ref l)) [.int i] M Q := fun Mx F H v vs QV p r ra k => by
  cases r
  obtain ⟨y, rfl, ry⟩ := ra1 ra
  cases ry
  obtain ⟨_, ws, hH, rw'⟩ := own_at p.m hn
  obtain ⟨y, hy, ry⟩ := rw'.get hi
  have hlt := (List.getElem?_eq_some_iff.mp hi).1
  refine rMt.of mt_popAt ⟨l, ws, i, i.toNat, y, rfl, rfl, hH, by omega, by omega, seqIndex_of h0 (by rw [rw'.1]; omega), hy, k _ _ (pst_wl p.m hn (rw'.eraseIdx _) ry q)⟩
theorem md_reverse (n : Nat) (hn : M[n]? = some (l, .lst xs)) (q : Q .non (M.set n (l, .lst xs.reverse))) : MtD X "list.reverse" "list" (.raw (.ref l)) [] M Q := fun Mx F H v vs QV p r ra k => by
  cases r
  have := ra.nil_of
  subst this
  obtain ⟨_, ws, hH, rw'⟩ := own_at p.m hn
  exact rMt.of mt_reverse ⟨l, ws, rfl, rfl, hH, k _ _ (pst_wl p.m hn rw'.reverse .non q)⟩
theorem md_clear (n : Nat) (hn : M[n]? = some (l, .lst xs)) (q : Q .non (M.set n (l, .lst []))) : MtD X "list.clear" "list" (.raw (.ref l)) [] M Q := fun Mx F H v vs QV p r ra k => by
  cases r
  have := ra.nil_of
  subst this
  obtain ⟨_, ws, hH, rw'⟩ := own_at p.m hn
  exact rMt.of mt_clear ⟨l, ws, rfl, rfl, hH, k _ _ (pst_wl p.m hn RA.nil .non q)⟩
/-- the first place of an int -/
theorem md_index {ns : List Int} {i : Int} (hm : i ∈ ns) (q : Q (.int (ns.idxOf i : Nat)) M) : MtD X "list.index" "list" (.lst (ns.map .int)) [.int i] M Q := fun Mx F H v vs QV p r ra k => by
  obtain ⟨a, ws, rfl, _, h1, a1⟩ := r.list p.m.ex
  obtain ⟨y, rfl, ry⟩ := ra1 ra
  cases ry
  have ew := ra_ints a1
  subst ew
  have hlt : ns.idxOf i < ns.length := List.idxOf_lt_length_iff.mpr hm
  refine rMt.of mt_index ⟨a, _, .int i, ns.idxOf i, .int i, rfl, rfl, h1, rfl, by simp [flatV], ?_, by simp [eqV], fun m z hmz hz => ?_, k _ _ (pst_same p.m (.int _) q)⟩
  · rw [List.getElem?_map, List.getElem?_eq_getElem hlt, List.getElem_idxOf]; rfl
  · rw [List.getElem?_map] at hz
    have hml : m < ns.length := Nat.lt_trans hmz hlt
    rw [List.getElem?_eq_getElem hml] at hz
    cases hz
    have := List.not_of_lt_findIdx (p := (· == i)) (xs := ns) (by simpa [List.idxOf] using hmz)
    simpa [eqV] using this

/-! ### stores at places -/
theorem rel_set {n j : Nat} {k : Int} {v : V} (m : RelM K (M ++ Mx) F H) (hn : M[n]? = some (l, .lst xs)) (hj : ixN xs.length k = some j) (r : R K F v d) :
    ∃ ws, H l = some (.lst ws) ∧ ixN ws.length k = some j ∧ RelM K (M.set n (l, .lst (xs.set j d)) ++ Mx) F (upd H l (.lst (ws.set j v))) := by
  obtain ⟨_, ws, hH, rw'⟩ := own_at m hn
  exact ⟨ws, hH, by rw [rw'.1]; exact hj, rel_wl m hn (rw'.set r j)⟩
/-- o[i] = v as a target -/
theorem s1_setI {tpos : Pos} (h : EJ X e st M (fun d M1 => EJ X a st M1 (fun d1 M2 => EJ X b st M2 (fun d2 M3 => ∃ (l : Addr) (n : Nat) (xs : List D) (k : Int) (j : Nat), d1 = .raw (.ref l) ∧ d2 = .int k ∧ M3[n]? = some (l, .lst xs) ∧ ixN xs.length k = some j ∧ P.nx st (M3.set n (l, .lst (xs.set j d)))) P.er) P.er) P.er)
    (ha : ∀ v, assign (.Subscript a b tpos) X.env v = (do
      let ov ← holding [v] (eval a X.env)
      let iv ← holding [v, ov] (eval b X.env)
      standAt tpos
      holding [v, ov, iv] (setItem ov iv v)
      release [v, ov, iv] []) := by intro _; rfl)
    (hs : swapsWithSole [.Subscript a b tpos] e pos.line X.env = pure false := by rfl) (hw : swappedStores [.Subscript a b tpos] e X.env = pure none := by rfl)
    (h1 : (assignEach [.Subscript a b tpos] X.env).map (·.2) = [assign (.Subscript a b tpos) X.env] := by rfl) : S1 X (.Assign [.Subscript a b tpos] e pos) st M P := fun Mx F σ H Wx p _ => by
  refine WS.of (ps_asg pe_W (pg_sub pe_W pe_W set_list ha) hs hw h1) ?_
  refine h.bind p fun d M1 F1 v H1 q1 e1 r1 p1 => ?_
  refine q1.bind p1 fun d1 M2 F2 v1 H2 q2 e2 r2 p2 => ?_
  refine q2.bind p2 fun d2 M3 F3 v2 H3 ⟨l, n, xs, k, j, ed1, ed2, hn, hj, q3⟩ e3 r3 p3 => ?_
  subst ed1 ed2
  cases r2
  cases r3
  obtain ⟨ws, hH, hj', m'⟩ := rel_set p3.m hn hj ((r1.mono e2).mono e3)
  exact ⟨l, ws, k, j, rfl, rfl, hH, hj', sstOf q3 ((e1.trans e2).trans e3) p3.sl m'⟩
def rGetL (K : PySem.W.Frag) : V → V → Hp → VK → Prop := fun x y H Q => ∃ p xs i v, x = .ref p ∧ y = .int i ∧ H p = some (.lst xs) ∧ atI xs i = some v ∧ Q v H
theorem get_listL : PGet X (rGetL X.K) := by
  intro pins s σ H x y v u Q I rx ry h
  obtain ⟨p, xs, i, z, rfl, rfl, hq, he, q⟩ := h
  cases rx
  obtain ⟨t, rfl⟩ := ry
  obtain ⟨its, r, pl, hz⟩ := I.list (SqL.of hq)
  obtain ⟨j, h1, h2, h3, h4, h5⟩ := atI_get he
  obtain ⟨w, ew, rw'⟩ := r.get h2
  have hl := r.length
  have hn := line63
  have fin : EP X pins σ Q w s := ⟨z, H, I, rw', q⟩
  by_cases h0 : 0 ≤ i
  · have hj : i.toNat = j := by
      rw [seqIndex_of h0 h5] at h1
      exact Option.some.inj h1
    exact wpAny_getItem_list pl.isList h0 (by omega) (by rw [hj]; simpa using ew) fin
  · have hj : (i + (its.toArray.size : Int)).toNat = j := by
      rw [seqIndex_neg (by omega) h4] at h1
      rw [List.size_toArray, ← hl]
      exact Option.some.inj h1
    exact wpAny_getItem_list_neg pl.isList (by omega) (by rw [List.size_toArray] <;> omega) (by omega) (by rw [hj]; simpa using ew) fin
/-- o[i] op= e -/
theorem s1_augI {op : Operator} {tpos : Pos} (h : EJ X a st M (fun d1 M1 => EJ X b st M1 (fun d2 M2 => ∃ (l : Addr) (n : Nat) (xs : List D) (k : Int) (d3 : D), d1 = .raw (.ref l) ∧ d2 = .int k ∧ M2[n]? = some (l, .lst xs) ∧ atI xs k = some d3 ∧
      EJ X e st M2 (fun d4 M3 => OpD X (inplaceOp op) d3 d4 M3 (fun d5 M4 => ∃ (n : Nat) (ys : List D) (j : Nat), M4[n]? = some (l, MO.lst ys) ∧ ixN ys.length k = some j ∧ P.nx st (M4.set n (l, .lst (ys.set j d5))))) P.er) P.er) P.er)
    (ha : ∀ ov iv new, augStore b ov iv new = (do holding [new, ov, iv] (setItem ov iv new); release [new, ov, iv] []; pure .next) := by intros; rfl) : S1 X (.AugAssign (.Subscript a b tpos) op e pos) st M P := fun Mx F σ H Wx p _ => by
  refine WS.of (ps_augS pe_W pe_W get_listL pe_W (tip := rOp X (inplaceOp op)) (fun pins s σ H x y v u Q I rx ry h => h pins s σ v u I rx ry) set_list ha) ?_
  refine h.bind p fun d1 M1 F1 v1 H1 q1 e1 r1 p1 => ?_
  refine q1.bind p1 fun d2 M2 F2 v2 H2 ⟨l, n, xs, k, d3, ed1, ed2, hn, h3, q2⟩ e2 r2 p2 => ?_
  subst ed1 ed2
  cases r1
  cases r2
  obtain ⟨_, ws, hH, rw'⟩ := own_at p2.m hn
  obtain ⟨v3, hv3, r3⟩ := ra_atI rw' h3
  refine ⟨l, ws, k, v3, rfl, rfl, hH, hv3, ?_⟩
  refine q2.bind p2 fun d4 M3 F3 v4 H3 q3 e3 r4 p3 => ?_
  refine q3 Mx F3 H3 v3 v4 _ p3.at_ (r3.mono e3) r4 fun v5 H4 ⟨d5, M4, F4, ⟨n, ys, j, hn, hj, q4⟩, e4, r5, m4⟩ => ?_
  obtain ⟨ws, hH, hj', m'⟩ := rel_set m4 hn hj r5
  exact ⟨l, ws, k, j, rfl, rfl, hH, hj', sstOf q4 (((e1.trans e2).trans e3).trans e4) ((p3.sl.mono e4)) m'⟩

theorem set_same {α : Type} {xs : List α} {i : Nat} {x : α} (h : xs[i]? = some x) : xs.set i x = xs := by
  refine List.ext_getElem? fun j => ?_
  by_cases q : i = j
  · subst q
    rw [List.getElem?_set_self (List.getElem?_eq_some_iff.mp h).1, h]
  · rw [List.getElem?_set_ne q]
/-! ### freezing -/
theorem rel_freeze {n : Nat} (m : RelM K (M ++ Mx) F H) (hn : M[n]? = some (l, .lst xs)) : ∃ F', Ex F F' ∧ R K F' (.ref l) (.lst xs) ∧ RelM K (M.eraseIdx n ++ Mx) F' H := by
  obtain ⟨F', e, r, m'⟩ := m.freeze (get_app (Mx := Mx) hn)
  rw [List.eraseIdx_append_of_lt_length (List.getElem?_eq_some_iff.mp hn).1] at m'
  exact ⟨F', e, r, m'⟩
/-- the value of an expression is frozen -/
theorem ej_frz (h : EJ X e st M (fun d M1 => ∃ l n xs, d = .raw (.ref l) ∧ M1[n]? = some (l, .lst xs) ∧ Q (.lst xs) (M1.eraseIdx n)) E) : EJ X e st M Q E := fun Mx F σ H Wx p => by
  refine h.bind p fun d M1 F1 v H1 ⟨l, n, xs, ed, hn, q⟩ e1 r1 p1 => ?_
  subst ed
  cases r1
  obtain ⟨F', e2, r, m'⟩ := rel_freeze p1.m hn
  exact ⟨_, _, F', q, e1.trans e2, r, m'⟩
/-- a slot's list is frozen -/
theorem sj_frz {ss : List Stmt} (i n : Nat) (hi : st[i]? = some (some (.raw (.ref l)))) (hn : M[n]? = some (l, .lst xs)) (h : SJ X ss (st.set i (some (.lst xs))) (M.eraseIdx n) P) : SJ X ss st M P := fun Mx F σ H Wx p hp => by
  obtain ⟨F', e2, r, m'⟩ := rel_freeze p.m hn
  obtain ⟨v, hv, rv⟩ := p.sl.2 i _ hi
  cases rv
  have sl : Slots X.K F' (st.set i (some (.lst xs))) σ := by
    have z := (p.sl.mono e2).set (i := i) r
    rw [set_same hv] at z
    exact z
  exact endsMono e2 (h Mx F' σ H Wx ⟨sl, m', p.tk, p.wi.mono e2, p.un⟩ hp)
/-- .. in the value of an expression, behind it -/
theorem sj_frzN {ss : List Stmt} (n : Nat) (hn : M[n]? = some (l, .lst xs)) (h : SJ X ss st (M.eraseIdx n) P) : SJ X ss st M P := fun Mx F σ H Wx p hp => by
  obtain ⟨F', e2, r, m'⟩ := rel_freeze p.m hn
  exact endsMono e2 (h Mx F' σ H Wx ⟨p.sl.mono e2, m', p.tk, p.wi.mono e2, p.un⟩ hp)
end
end SL

set_option maxHeartbeats 2000000
/-! List comprehensions. -/
namespace SL
open PySem PySem.Spec PyProof.Rows L2 Evl

/-- a block's context within X -/
def BX (X : Cx) (scope : Scope) (Y : Cx) : Prop := ∃ (s : Shared) (H : Hp) (C : Addr) (cl : List (Str × Addr)) (fp : List Addr), Y = X.blk s H scope (compEnvC scope cl C X.env) fp
/-- the tests of a clause -/
def FJ (Y : Cx) (ifs : List Expr) (st : Sls) (M : Mem) (Q : BK) : Prop := match ifs with
  | [] => Q true M
  | [c] => TJ Y c st M Q noE
  | _ => False
def WTs (Y : Cx) (ifs : List Expr) : TT := fun σ H Q => match ifs with
  | [] => Q true H
  | [c] => WT Y c σ H Q
  | _ => False
theorem pts_W {Y : Cx} {ifs : List Expr} : PTs Y ifs (WTs Y ifs) := by
  match ifs with
  | [] => exact pts_nil
  | [c] => exact pts_one pt_W
  | c :: d :: r => exact ⟨fun _ _ _ _ _ _ h => False.elim h⟩
theorem WTs.imp {Y : Cx} {ifs : List Expr} {σ : L2.St} {H : Hp} {Q Q' : Bool → Hp → Prop} (h : WTs Y ifs σ H Q) (k : ∀ b H', Q b H' → Q' b H') : WTs Y ifs σ H Q' := by
  match ifs, h with
  | [], h => exact k _ _ h
  | [c], h => exact WT.imp h k
  | c :: d :: r, h => exact False.elim h
theorem WG.imp {X : Cx} {tg : Expr} {v : V} {σ : L2.St} {H : Hp} {Q Q' : L2.St → Hp → Prop} (h : WG X tg v σ H Q) (k : ∀ σ' H', Q σ' H' → Q' σ' H') : WG X tg v σ H Q' := fun pins s u I r =>
  thn (h pins s u I r) fun _ _ ⟨a, b, I', q⟩ => ⟨a, b, I', k _ _ q⟩
abbrev noW : WX := fun _ _ _ _ => False
theorem takes_no {Y : Cx} : Takes Y noW := fun u s' ⟨_, _, _, _, _, _, _, _, _, _, _, _, _, _, _, _, w⟩ => False.elim w
theorem wish_no {K : PySem.W.Frag} {Mx : Mem} {F : Hp} {Wx : WX} : Wish K Mx F noE Wx := fun _ _ _ _ _ _ _ _ q _ _ _ _ => False.elim q
theorem FJ.run {Y : Cx} {ifs : List Expr} {st : Sls} {M Mx : Mem} {F H : Hp} {σ : L2.St} {Q : BK} (h : FJ Y ifs st M Q) (p : Pre Y st M Mx F σ H noE noW) : WTs Y ifs σ H (fun b H' => ∃ M' F', Q b M' ∧ Ex F F' ∧ Pre Y st M' Mx F' σ H' noE noW) := by
  match ifs, h with
  | [], h => exact ⟨M, F, h, Ex.refl F, p⟩
  | [c], h => exact TJ.bind h p fun b M' F' H' q e p' => ⟨M', F', q, e, p'⟩
  | c :: d :: r, h => exact False.elim h
theorem wipe_same {σ σ' : L2.St} {vs : List Nat} (hl : σ'.length = σ.length) (h : ∀ k, k ∉ vs → σ'[k]? = σ[k]?) : wipe σ' vs = wipe σ vs := by
  refine List.ext_getElem? fun i => ?_
  have key : ∀ (vs : List Nat) (τ : L2.St) (i : Nat), (wipe τ vs)[i]? = if i ∈ vs ∧ i < τ.length then some none else τ[i]? := by
    intro vs
    induction vs with
    | nil => intro τ i; simp [wipe]
    | cons v vs ih =>
      intro τ i
      unfold wipe
      by_cases hv : v = i
      · subst hv
        by_cases hlt : v < τ.length
        · rw [List.getElem?_set_self (by rw [wipe_length]; exact hlt), if_pos ⟨List.mem_cons_self, hlt⟩]
        · rw [List.getElem?_eq_none (by rw [List.length_set, wipe_length]; omega), if_neg (by omega), List.getElem?_eq_none (by omega)]
      · rw [List.getElem?_set_ne hv, ih]
        have hm : i ∈ v :: vs ↔ i ∈ vs := by
          rw [List.mem_cons]
          exact ⟨fun z => z.resolve_left fun e => hv e.symm, .inr⟩
        simp only [hm]
  rw [key, key, hl]
  by_cases hi : i ∈ vs
  · by_cases hlt : i < σ.length
    · rw [if_pos ⟨hi, hlt⟩, if_pos ⟨hi, hlt⟩]
    · rw [if_neg (by omega), if_neg (by omega), List.getElem?_eq_none (by omega), List.getElem?_eq_none (by omega)]
  · rw [if_neg (fun z => hi z.1), if_neg (fun z => hi z.1), h i hi]
theorem wipe_same2 {σ σ' : L2.St} {vs : List Nat} (hl : σ'.length = (wipe σ vs).length) (h : ∀ k, k ∉ vs → σ'[k]? = (wipe σ vs)[k]?) : wipe σ' vs = wipe σ vs := by
  refine wipe_same (by rw [hl, wipe_length]) fun k hk => ?_
  rw [h k hk]
  have key : ∀ (vs : List Nat) (τ : L2.St) (i : Nat), i ∉ vs → (wipe τ vs)[i]? = τ[i]? := by
    intro vs
    induction vs with
    | nil => intro τ i _; rfl
    | cons v vs ih =>
      intro τ i hi
      unfold wipe
      rw [List.getElem?_set_ne (fun e => hi (by rw [e]; exact List.mem_cons_self)), ih τ i fun z => hi (List.mem_cons_of_mem _ z)]
  exact key vs σ k hk

section
variable {X : Cx} {elt tg iter : Expr} {ifs : List Expr} {scope : Scope} {own : List (Str × Nat)} {st : Sls} {M Mx : Mem} {E : EK} {F H : Hp} {σ : L2.St} {Wx : WX} {js : List Nat} {pos : Pos}
/-- the turns of a comprehension -/
def LcJ (X : Cx) (elt tg : Expr) (ifs : List Expr) (scope : Scope) (vs : List Nat) (st : Sls) (ds : List D) (M1 : Mem) (Q : List D → Mem → Prop) : Prop :=
  ds.length ≤ 1000000 ∧ ∃ I : Nat → List D → Mem → Prop, I 0 [] M1 ∧
    (∀ i d acc M', ds[i]? = some d → I i acc M' → ∃ js : List Nat, (∀ k ∈ js, k ∈ vs) ∧ ∀ Y, BX X scope Y → GJ Y tg js d (wipeD st vs) M' (fun st2 M2 => ∀ Y, BX X scope Y → FJ Y ifs st2 M2 (fun b M3 =>
      if b = true then ∀ Y, BX X scope Y → EJ Y elt st2 M3 (fun d' M4 => I (i + 1) (acc ++ [d']) M4) noE else I (i + 1) acc M3))) ∧
    ∀ acc M', acc.length ≤ ds.length → I ds.length acc M' → Q acc M'
theorem lc_goal {Q : List D → Mem → Prop} {vs : List Nat} {QV : VK} (h : IJ X tg iter st M (fun ds M1 => LcJ X elt tg ifs scope vs st ds M1 Q) E) (p : Pre X st M Mx F σ H E Wx)
    (k : ∀ l acc M' F' H', Q acc M' → Ex F F' → RelM X.K (((l, .lst acc) :: M') ++ Mx) F' H' → QV (.ref l) H') :
    tLc (WI X tg iter) (fun v σ H Q => ∀ Y, BX X scope Y → WG Y tg v σ H Q) (fun σ H Q => ∀ Y, BX X scope Y → WTs Y ifs σ H Q) (fun σ H Q => ∀ Y, BX X scope Y → W Y elt σ H Q) vs σ H QV := by
  show WI X tg iter σ H _
  intro pins s I0
  refine thn (h Mx F σ H Wx p pins s I0) fun v s1 h1 => thn h1 fun itv s2 ⟨it, fp, tn, J, H2, e0, I2, T, st2, f2, ds, M1, F1, ⟨hlen, I, i0, turn, fin⟩, ex1, m1, ok⟩ => ?_
  refine ⟨it, fp, tn, J, H2, e0, I2, T, st2, f2, fun D hD => ⟨fun i m H' => m = ds.length - i ∧ i ≤ ds.length ∧ ∃ acc M' F', I i acc M' ∧ acc.length ≤ i ∧ Ex F1 F' ∧ RelM X.K (M' ++ ((D, .lst acc) :: Mx)) F' H', ⟨ds.length, by simp, Nat.zero_le _, [], M1, F1, i0, Nat.le_refl _, Ex.refl F1, ?_⟩, ?_⟩⟩
  · have z := m1.newO (o := .lst []) (u := .lst []) hD ⟨[], upd_same, RA.nil⟩
    exact z.perm List.perm_middle.symm
  rintro i m H' ⟨rfl, hi, acc, M', F', iv, hal, ex', m'⟩
  by_cases hlt : i < ds.length
  · obtain ⟨g1, g2⟩ := ok.go i ds[i] F' H' (M' ++ ((D, .lst acc) :: Mx)) (by simp [hlt]) ex' m'
    refine .inr ⟨g1, fun H' => ∃ acc M' F', I (i + 1) acc M' ∧ acc.length ≤ i + 1 ∧ Ex F1 F' ∧ RelM X.K (M' ++ ((D, .lst acc) :: Mx)) F' H', fun H3 z => ⟨ds.length - (i + 1), by omega, rfl, hlt, z⟩, fun x H3 hy => ?_⟩
    obtain ⟨F2, ex2, rx, m2⟩ := g2 x H3 hy
    obtain ⟨js, hjs, tn⟩ := turn i ds[i] acc M' (by simp [hlt]) iv
    intro Y hY
    have sl : Slots X.K F2 (wipeD st vs) (wipe σ vs) := ((p.sl.mono ex1).mono (ex'.trans ex2)).wipe vs
    have gj := tn Y hY ((D, .lst acc) :: Mx) F2 (wipe σ vs) H3 x
    obtain ⟨s9, H9, C9, cl9, fp9, rfl⟩ := hY
    refine WG.imp (gj sl ⟨m2, p.un⟩ rx) fun σ3 H4 ⟨hk, hl, st3, M3, F3, q3, ex3, sl3, m3⟩ => ?_
    refine ⟨wipe_same2 hl fun k hkv => hk k fun z => hkv (hjs k z), fun Y hY => ?_⟩
    have fj := q3 Y hY
    obtain ⟨s9, H9, C9, cl9, fp9, rfl⟩ := hY
    refine WTs.imp (FJ.run (Mx := (D, .lst acc) :: Mx) (F := F3) (σ := σ3) (H := H4) fj ⟨sl3, m3, takes_no, wish_no, p.un⟩) fun b H5 ⟨M5, F5, q5, ex5, p5⟩ => ?_
    cases b with
    | false => exact ⟨acc, M5, F5, q5, Nat.le_succ_of_le hal, ((ex'.trans ex2).trans ex3).trans ex5, p5.m⟩
    | true =>
      simp only [if_true] at q5 ⊢
      intro Y hY
      have ej := q5 Y hY
      obtain ⟨s9, H9, C9, cl9, fp9, rfl⟩ := hY
      refine W.imp (ej ((D, .lst acc) :: Mx) F5 σ3 H5 noW ⟨p5.sl, p5.m, takes_no, wish_no, p.un⟩) fun y H6 ⟨d', M6, F6, q6, ex6, r6, m6⟩ => ?_
      have hn : (M6 ++ ((D, MO.lst acc) :: Mx))[M6.length]? = some (D, .lst acc) := by
        rw [List.getElem?_append_right (Nat.le_refl _), Nat.sub_self]; rfl
      obtain ⟨_, ws, hH, rw'⟩ := m6.own (D, .lst acc) (List.mem_of_getElem? hn)
      refine ⟨ws, hH, by rw [rw'.1, sizeLine_eq]; omega, acc ++ [d'], M6, F6, q6, by simp; omega, (((ex'.trans ex2).trans ex3).trans ex5).trans ex6, ?_⟩
      have z := m6.write (u := .lst (ws ++ [y])) (o' := .lst (acc ++ [d'])) hn ⟨ws ++ [y], upd_same, rw'.append (RA.cons r6 RA.nil)⟩
      rw [List.set_append_right _ _ (Nat.le_refl _), Nat.sub_self] at z
      exact z
  · have e : i = ds.length := by omega
    subst e
    exact .inl ⟨ok.stop F' H' _ ex' m', k D acc M' F' H' (fin _ _ hal iv) (ex1.trans ex') (m'.perm List.perm_middle)⟩
variable {Q : DK}
/-- [elt for tg in iter if ..], owned -/
theorem ej_lcO (own : List (Str × Nat)) (hc : X.calm = true) (hN : X.N.Nodup) (ok : BlkOk X.N X.env.scope scope own)
    (h : IJ X tg iter st M (fun ds M1 => LcJ X elt tg ifs scope (own.map (·.2)) st ds M1 (fun acc M2 => ∀ l, Q (.raw (.ref l)) ((l, .lst acc) :: M2))) E) (hs : ∀ x, foldedSetIterable iter X.env x = pure x := by intro _; rfl) :
    EJ X (.ListComp elt [⟨tg, iter, ifs, 0⟩] scope pos) st M Q E := fun Mx F σ H Wx p => by
  refine W.of (pe_lc hc hN pi_W ok (fun s H C cl fp => ⟨fun pins s' σ H v u Q I r q => q _ ⟨s, _, C, cl, fp, rfl⟩ pins s' u I r⟩) (fun s H C cl fp => ⟨fun pins s' σ H Q I q => pts_W.run pins s' σ H Q I (q _ ⟨s, _, C, cl, fp, rfl⟩)⟩)
    (fun s H C cl fp => ⟨fun pins s' σ H Q I q => q _ ⟨s, _, C, cl, fp, rfl⟩ pins s' I⟩) hs) (lc_goal h p fun l acc M' F' H' q ex m => ?_)
  exact ⟨_, _, F', q l, ex, .raw _, m⟩
/-- .. frozen -/
theorem ej_lc (own : List (Str × Nat)) (hc : X.calm = true) (hN : X.N.Nodup) (ok : BlkOk X.N X.env.scope scope own)
    (h : IJ X tg iter st M (fun ds M1 => LcJ X elt tg ifs scope (own.map (·.2)) st ds M1 (fun acc M2 => Q (.lst acc) M2)) E) (hs : ∀ x, foldedSetIterable iter X.env x = pure x := by intro _; rfl) :
    EJ X (.ListComp elt [⟨tg, iter, ifs, 0⟩] scope pos) st M Q E := by
  refine ej_frz (ej_lcO own hc hN ok ?_ hs)
  intro Mx F σ H Wx p pins s I0
  refine thn (h Mx F σ H Wx p pins s I0) fun v s1 h1 => thn h1 fun itv s2 ⟨it, fp, tn, J, H2, e0, I2, T, st2, f2, ds, M1, F1, q, r⟩ => ⟨it, fp, tn, J, H2, e0, I2, T, st2, f2, ds, M1, F1, ?_, r⟩
  obtain ⟨a1, I, a2, a3, a4⟩ := q
  exact ⟨a1, I, a2, a3, fun acc M' hl iv l => ⟨l, 0, acc, rfl, rfl, a4 acc M' hl iv⟩⟩
/-- name = [..] on one line -/
theorem s1_setLcO {P : Post} (i : Nat) (own : List (Str × Nat)) {y : Str} {py spos : Pos} (hc : X.calm = true) (hN : X.N.Nodup) (hy : X.N[i]? = some y) (hyl : X.env.scope.names.lookup y = some .local)
    (hsw : swapsWith (.ListComp elt [⟨tg, iter, ifs, 0⟩] scope pos) (some (.Name y py)) spos.line X.env = pure true) (ok : BlkOk X.N X.env.scope scope own)
    (h : IJ X tg iter st M (fun ds M1 => LcJ X elt tg ifs scope (own.map (·.2)) st ds M1 (fun acc M2 => ∀ l, P.nx (st.set i (some (.raw (.ref l)))) ((l, .lst acc) :: M2))) P.er) (hs : ∀ x, foldedSetIterable iter X.env x = pure x := by intro _; rfl) :
    S1 X (.Assign [.Name y py] (.ListComp elt [⟨tg, iter, ifs, 0⟩] scope pos) spos) st M P := fun Mx F σ H Wx p _ => by
  refine WS.of (ps_setLc (g := fun v σ H Q => ∀ Y, BX X scope Y → WG Y tg v σ H Q) (tt := fun σ H Q => ∀ Y, BX X scope Y → WTs Y ifs σ H Q) (te := fun σ H Q => ∀ Y, BX X scope Y → W Y elt σ H Q) hc hN hy hyl hsw pi_W ok (fun s H C cl fp => ⟨fun pins s' σ H v u Q I r q => q _ ⟨s, _, C, cl, fp, rfl⟩ pins s' u I r⟩) (fun s H C cl fp => ⟨fun pins s' σ H Q I q => pts_W.run pins s' σ H Q I (q _ ⟨s, _, C, cl, fp, rfl⟩)⟩)
    (fun s H C cl fp => ⟨fun pins s' σ H Q I q => q _ ⟨s, _, C, cl, fp, rfl⟩ pins s' I⟩) hs) ?_
  refine lc_goal h p fun l acc M' F' H' q ex m => ?_
  exact sstOf (q l) ex ((p.sl.mono ex).set (.raw _)) m
end
end SL

set_option maxHeartbeats 2000000
/-! Contracts of defs, calls. -/
namespace SL
open PySem PySem.Spec PyProof.Rows L2 Evl

/-- a contract: the arguments, what is lent, the wanted end, the wanted error -/
abbrev Ct := List D → Mem → DK → (Er → Mem → Prop) → Prop
def spOf (K : PySem.W.Frag) (n : Nat) (c : Ct) : Sp := fun vs H QV EV => vs.length = n ∧ ∃ ds M Mx F Q E, RelM K (M ++ Mx) F H ∧ RA K F vs ds ∧ c ds M Q E ∧ (∀ v H', Pst K Mx F Q v H' → QV v H') ∧
  ∀ er M' F' H' cls d, E er M' → Ex F F' → ErAt K er cls d F' H' → RelM K (M' ++ Mx) F' H' → EV cls d H'
/-- the slots at the entry -/
def stD (N : List Str) (ds : List D) : Sls := ds.map some ++ List.replicate (N.length - ds.length) none
theorem start_slots {K : PySem.W.Frag} {F : Hp} {N : List Str} {vs : List V} {ds : List D} (r : RA K F vs ds) : Slots K F (stD N ds) (L2.start N vs) := by
  have hl := r.1
  refine ⟨by simp [stD, L2.start, hl], fun i d h => ?_⟩
  unfold stD at h
  unfold L2.start
  by_cases hi : i < ds.length
  · rw [List.getElem?_append_left (by simpa using hi), List.getElem?_map] at h
    rw [List.getElem?_append_left (by simp; omega), List.getElem?_map]
    cases hd : ds[i]? with
    | none => rw [hd] at h; cases h
    | some d' =>
      rw [hd] at h
      cases h
      obtain ⟨v, hv, rv⟩ := r.get hd
      exact ⟨v, by rw [hv]; rfl, rv⟩
  · rw [List.getElem?_append_right (by simp; omega), List.getElem?_replicate] at h
    split at h <;> cases h
def rtP (Q : DK) (E : Er → Mem → Prop) : Post := { nx := fun _ M' => ∃ M2, M2.Sublist M' ∧ Q .non M2, rt := Q, er := fun er _ M' => ∃ M2, M2.Sublist M' ∧ E er M2 }
/-- the context of a body -/
structure Bd (P : Program) (w : World) (K : PySem.W.Frag) (mg : Str → Option Value) (base : Heap) (k : Nat) (N : List Str) (qual : Str) (scope : Scope) (f : Addr) (X : Cx) : Prop where
  ex : ∃ (cdv : Value) (A : Around) (outer : List Env) (s : Shared) (H : Hp) (E : XK), X = cxOf (L2.CX P w) P w K mg base N qual scope f cdv A outer s H E
  room : Room k X.A
section
variable {P : Program} {w : World} {K : PySem.W.Frag} {mg : Str → Option Value} {base : Heap} {x qual : Str} {params : Arguments} {body : List Stmt} {scope : Scope} {f : Addr} {fd : FuncData} {N ps : List Str} {k : Nat} {c : Ct}
/-- THE RULE of a def: its contract by its body -/
theorem fn_rule {dvs : List V} {kws : List (Str × V)} (F : FunD K x qual params body scope dvs kws f fd) (S : FnScope N ps scope)
    (hbody : ∀ (X : Cx), Bd P w K mg base k N qual scope f X → ∀ ds M Q E, ds.length = ps.length → c ds M Q E → SJ X body (stD N ds) M (rtP Q E)) : FnOk P w K mg base (L2.CX P w) (k + 1) f fd ps (spOf K ps.length c) := by
  refine F.ok S (fun vs H Q E h => h.1) fun cdv A outer s H vs QV EV hr h => ?_
  obtain ⟨hl, ds, M, Mx, F0, Q, E, m, r, hc, hq, he⟩ := h
  refine ⟨_, pss_W, ?_⟩
  have tk := takes_of (X := cxOf (L2.CX P w) P w K mg base N qual scope f cdv A outer s H EV) rfl rfl rfl rfl
  have hp := passes_of (X := cxOf (L2.CX P w) P w K mg base N qual scope f cdv A outer s H EV) rfl
  refine WSs.imp (hbody _ ⟨⟨cdv, A, outer, s, H, EV, rfl⟩, hr⟩ ds M Q E (by rw [← r.1, hl]) hc Mx F0 (L2.start N vs) H _ ⟨start_slots r, m, tk, fun er st' M' F2 H' cls d σ' ⟨M2, hs, q⟩ e2 _ a m' => he er M2 F2 H' cls d q e2 a (relSub m' hs), hr.units⟩ hp)
    (fun σ' H' ⟨st', M', F', ⟨M2, hs, q⟩, ex, sl, m'⟩ => hq _ _ ⟨.non, M2, F', q, ex, .non, relSub m' hs⟩) (fun v H' z => hq v H' z) (fun _ _ z => ?_) (fun _ _ z => ?_)
  · obtain ⟨_, _, _, z, _⟩ := z
    exact z
  · obtain ⟨_, _, _, z, _⟩ := z
    exact z
end

/-- a def that is called by its name -/
structure FnI (P : Program) (w : World) (K : PySem.W.Frag) (mg : Str → Option Value) (base : Heap) (k : Nat) (x : Str) (ps : List Str) (c : Ct) : Prop where
  ex : ∃ f fd, mg x = some (.ref f) ∧ FnOk P w K mg base (L2.CX P w) k f fd ps (spOf K ps.length c) ∧ Binds K fd ps [] ∧ PySem.W.keepIn K (.ref f) = true
section
variable {X : Cx} {a : Expr} {es : List Expr} {st : Sls} {M Mx : Mem} {E : EK} {Q : DK} {F F' H H' : Hp} {σ : L2.St} {Wx : WX} {P : Post} {x : Str} {p pos : Pos} {k : Nat} {ps : List Str} {c : Ct}
theorem room_mono {j k : Nat} {A : Around} (h : Room k A) (l : j ≤ k) : Room j A := h.mono l
/-- what a contract needs of the caller -/
def CtJ (c : Ct) (n : Nat) (ds : List D) (st : Sls) (M : Mem) (Q : DK) (E : EK) : Prop := ds.length = n ∧ ∃ M2 Mr, M.Perm (M2 ++ Mr) ∧ c ds M2 (fun d M' => ∃ M3, (M' ++ Mr).Perm M3 ∧ Q d M3) (fun er M' => ∃ M3, (M' ++ Mr).Perm M3 ∧ E er st M3)
theorem ct_sp {ds : List D} {n : Nat} {vs : List V} {QV : VK} (h : CtJ c n ds st M Q E) (p : Pre X st M Mx F σ H E Wx) (r : RA X.K F vs ds) (k : ∀ v H', Pst X.K Mx F Q v H' → QV v H') : spOf X.K n c vs H QV (WE Wx σ) := by
  obtain ⟨hl, M2, Mr, pm, hc⟩ := h
  refine ⟨by rw [r.1, hl], ds, M2, Mr ++ Mx, F, _, _, ?_, r, hc, fun v H' ⟨d, M', F', ⟨M3, pm3, q⟩, ex, rv, m⟩ => k v H' ⟨d, M3, F', q, ex, rv, ?_⟩, fun er M' F' H' cls d ⟨M3, pm3, q⟩ ex ea m => p.wi er st M3 F' H' cls d σ q ex (p.sl.mono ex) ea ?_⟩
  · rw [← List.append_assoc]
    exact p.m.perm (pm.append_right Mx)
  · rw [← List.append_assoc] at m
    exact m.perm (pm3.append_right Mx)
  · rw [← List.append_assoc] at m
    exact m.perm (pm3.append_right Mx)
theorem ej_call (Fo : FnI X.prog X.w X.K X.mg X.base k x ps c) (hr : Room k X.A) (hg : Gl X x) (h : AJ X (a :: es) st M (fun ds M1 => CtJ c ps.length ds st M1 Q E) E)
    (hdb : (x == ("__debug__" : Str)) = false := by decide) (he : starEach (a :: es) X.env = (false, eval a X.env) :: starEach es X.env := by rfl) (hpl : (backTo pos (starEach es X.env)).any (·.1) = false := by rfl) :
    EJ X (.Call (.Name x p) (a :: es) [] pos) st M Q E := fun Mx F σ H Wx p => by
  obtain ⟨f, fd, hm, Fn, hb, hk⟩ := Fo.ex
  refine W.of (pe_callS Fn hr hg hm hk hb (E := WE Wx) (fun σ => passAt p.tk σ) pa_W hdb he hpl) ?_
  exact h.bind p fun ds M1 F1 vs H1 q e1 r1 p1 => ct_sp q p1 r1 fun v H' z => z.mono e1
/-- contracts by shape: nothing is lent, nothing new is owned -/
def Pc (R : List D → (D → Prop) → (Er → Prop) → Prop) : Ct := fun ds M Q E => M = [] ∧ ∃ Q' E', R ds Q' E' ∧ (∀ d, Q' d → Q d []) ∧ ∀ er, E' er → E er []
/-- one object is lent -/
def Lc (R : List D → Addr → MO → (D → MO → Prop) → Prop) : Ct := fun ds M Q E => ∃ p o, M = [(p, o)] ∧ ∃ Q', R ds p o Q' ∧ ∀ d o', Q' d o' → Q d [(p, o')]
/-- anything -/
def Gc (R : List D → Mem → DK → (Er → Mem → Prop) → Prop) : Ct := fun ds M Q E => ∃ Q' E', R ds M Q' E' ∧ (∀ d M', Q' d M' → Q d M') ∧ ∀ er M', E' er M' → E er M'
theorem ctj_p {R : List D → (D → Prop) → (Er → Prop) → Prop} {ds : List D} {n : Nat} (h : R ds (fun d => Q d M) (fun er => E er st M)) (hl : ds.length = n := by rfl) : CtJ (Pc R) n ds st M Q E :=
  ⟨hl, [], M, List.Perm.refl _, rfl, _, _, h, fun d q => ⟨M, List.Perm.refl _, q⟩, fun er q => ⟨M, List.Perm.refl _, q⟩⟩
theorem ctj_l (i : Nat) {R : List D → Addr → MO → (D → MO → Prop) → Prop} {ds : List D} {n : Nat} {p : Addr} {o : MO} (hi : M[i]? = some (p, o)) (h : R ds p o (fun d o' => Q d (M.set i (p, o')))) (hl : ds.length = n := by rfl) : CtJ (Lc R) n ds st M Q E := by
  have hlt := (List.getElem?_eq_some_iff.mp hi).1
  have key : ∀ q : Addr × MO, (M.set i q).Perm ([q] ++ M.eraseIdx i) := fun q => by
    rw [List.eraseIdx_eq_take_drop_succ, List.set_eq_take_append_cons_drop, if_pos hlt]
    exact List.perm_middle
  refine ⟨hl, [(p, o)], M.eraseIdx i, ?_, p, o, rfl, _, h, fun d o' q => ⟨M.set i (p, o'), (key _).symm, q⟩⟩
  have z := key (p, o)
  rw [set_same hi] at z
  exact z
theorem ctj_g {R : List D → Mem → DK → (Er → Mem → Prop) → Prop} {ds : List D} {n : Nat} (M2 Mr : Mem) (hm : M.Perm (M2 ++ Mr)) (h : R ds M2 (fun d M' => Q d (M' ++ Mr)) (fun er M' => E er st (M' ++ Mr))) (hl : ds.length = n := by rfl) : CtJ (Gc R) n ds st M Q E :=
  ⟨hl, M2, Mr, hm, _, _, h, fun d M' q => ⟨_, List.Perm.refl _, q⟩, fun er M' q => ⟨_, List.Perm.refl _, q⟩⟩
/-- .. the owned objects at one place put back there -/
theorem ctj_g1 (i : Nat) {R : List D → Mem → DK → (Er → Mem → Prop) → Prop} {ds : List D} {n : Nat} {p : Addr} {o : MO} (hi : M[i]? = some (p, o)) (h : R ds [(p, o)] (fun d M' => ∃ o' M2, M' = M2 ++ [(p, o')] ∧ Q d (M2 ++ M.set i (p, o'))) (fun er M' => E er st (M' ++ M.eraseIdx i))) (hl : ds.length = n := by rfl) : CtJ (Gc R) n ds st M Q E := by
  have hlt := (List.getElem?_eq_some_iff.mp hi).1
  have key : ∀ q : Addr × MO, (M.set i q).Perm ([q] ++ M.eraseIdx i) := fun q => by
    rw [List.eraseIdx_eq_take_drop_succ, List.set_eq_take_append_cons_drop, if_pos hlt]
    exact List.perm_middle
  refine ⟨hl, [(p, o)], M.eraseIdx i, ?_, _, _, h, fun d M' ⟨o', M2, e, q⟩ => ⟨_, ?_, q⟩, fun er M' q => ⟨_, List.Perm.refl _, q⟩⟩
  · have z := key (p, o)
    rw [set_same hi] at z
    exact z
  · subst e
    rw [List.append_assoc]
    exact (key _).symm.append_left M2
/-! in a body -/
theorem SJ.mono {ss : List Stmt} {P P' : Post} (h : SJ X ss st M P) (k1 : ∀ s M, P.nx s M → P'.nx s M) (k2 : ∀ d M, P.rt d M → P'.rt d M) (k3 : ∀ s M, P.bk s M → P'.bk s M) (k4 : ∀ s M, P.ct s M → P'.ct s M) (k5 : ∀ er s M, P.er er s M → P'.er er s M) : SJ X ss st M P' := fun Mx F σ H Wx p hp =>
  WSs.imp (h Mx F σ H Wx ⟨p.sl, p.m, p.tk, fun er st' M' F' H' cls d σ' q => p.wi er st' M' F' H' cls d σ' (k5 _ _ _ q), p.un⟩ hp)
    (fun _ _ ⟨a, b, c, q, r⟩ => ⟨a, b, c, k1 _ _ q, r⟩) (fun _ _ ⟨a, b, c, q, r⟩ => ⟨a, b, c, k2 _ _ q, r⟩) (fun _ _ ⟨a, b, c, q, r⟩ => ⟨a, b, c, k3 _ _ q, r⟩) (fun _ _ ⟨a, b, c, q, r⟩ => ⟨a, b, c, k4 _ _ q, r⟩)
theorem body_p {R : List D → (D → Prop) → (Er → Prop) → Prop} {ss : List Stmt} {ds : List D} {E : Er → Mem → Prop} (hc : Pc R ds M Q E) (h : ∀ Q' E', R ds Q' E' → SJ X ss st [] (rtP (fun d M => M = [] ∧ Q' d) (fun er M => M = [] ∧ E' er))) : SJ X ss st M (rtP Q E) := by
  obtain ⟨rfl, Q', E', hr, h1, h2⟩ := hc
  refine (h Q' E' hr).mono (fun s M ⟨M2, hs, e, q⟩ => ⟨M2, hs, by subst e; exact h1 _ q⟩) (fun d M ⟨e, q⟩ => by subst e; exact h1 _ q) (fun _ _ z => z) (fun _ _ z => z) (fun er s M ⟨M2, hs, e, q⟩ => ⟨M2, hs, by subst e; exact h2 _ q⟩)
theorem body_l {R : List D → Addr → MO → (D → MO → Prop) → Prop} {ss : List Stmt} {ds : List D} {E : Er → Mem → Prop} (hc : Lc R ds M Q E) (h : ∀ p o Q', R ds p o Q' → SJ X ss st [(p, o)] (rtP (fun d M => ∃ o', M = [(p, o')] ∧ Q' d o') (fun _ _ => False))) : SJ X ss st M (rtP Q E) := by
  obtain ⟨p, o, rfl, Q', hr, h1⟩ := hc
  refine (h p o Q' hr).mono (fun s M ⟨M2, hs, o', e, q⟩ => ⟨M2, hs, by subst e; exact h1 _ _ q⟩) (fun d M ⟨o', e, q⟩ => by subst e; exact h1 _ _ q) (fun _ _ z => z) (fun _ _ z => z) (fun er s M ⟨M2, hs, q⟩ => False.elim q)
theorem body_g {R : List D → Mem → DK → (Er → Mem → Prop) → Prop} {ss : List Stmt} {ds : List D} {E : Er → Mem → Prop} (hc : Gc R ds M Q E) (h : ∀ Q' E', R ds M Q' E' → SJ X ss st M (rtP Q' E')) : SJ X ss st M (rtP Q E) := by
  obtain ⟨Q', E', hr, h1, h2⟩ := hc
  exact (h Q' E' hr).mono (fun s M ⟨M2, hs, q⟩ => ⟨M2, hs, h1 _ _ q⟩) (fun d M q => h1 _ _ q) (fun _ _ z => z) (fun _ _ z => z) (fun er s M ⟨M2, hs, q⟩ => ⟨M2, hs, h2 _ _ q⟩)

/-! ### keywords -/
def WK (X : Cx) (kws : List Keyword) : TA := fun σ H Q => ∀ (pos : Pos) (pins : List (Addr × Obj)) (s : Shared), Inv X pins σ H s → wpAny (model X.prog X.w) X.A (evalAll ((backToKw pos (keywordEach kws X.env)).map (·.2))) (AP X pins σ Q) X.xe s
theorem pk_W {kws : List Keyword} : PK X kws (WK X kws) := ⟨fun pos pins s _ _ _ I h => h pos pins s I⟩
theorem WK.of {kws : List Keyword} {t : TA} {Q : List V → Hp → Prop} (h : PK X kws t) (q : t σ H Q) : WK X kws σ H Q := fun pos pins s I => h.run pos pins s σ H Q I q
def KJ (X : Cx) (kws : List Keyword) (st : Sls) (M : Mem) (Q : List D → Mem → Prop) (E : EK) : Prop := ∀ Mx F σ H Wx, Pre X st M Mx F σ H E Wx → WK X kws σ H (Ast X.K Mx F Q)
theorem KJ.bind {kws : List Keyword} {Q : List D → Mem → Prop} (h : KJ X kws st M Q E) (p : Pre X st M Mx F σ H E Wx) {QV : List V → Hp → Prop}
    (k : ∀ d M' F' v H', Q d M' → Ex F F' → RA X.K F' v d → Pre X st M' Mx F' σ H' E Wx → QV v H') : WK X kws σ H QV := fun pos pins s I =>
  thn (h Mx F σ H Wx p pos pins s I) fun _ _ ⟨v, H', I', r, d, M', F', q, ex, ra, m⟩ => ⟨v, H', I', r, k d M' F' v H' q ex ra (p.next ex m)⟩
theorem kj_nil {Q : List D → Mem → Prop} (h : Q [] M) : KJ X [] st M Q E := fun Mx F σ H Wx p => WK.of pk_nil ⟨[], M, F, h, Ex.refl F, RA.nil, p.m⟩
theorem kj_cons {kws : List Keyword} {nm : Option Str} {kp : Pos} {Q : List D → Mem → Prop} (h : EJ X a st M (fun d M1 => KJ X kws st M1 (fun ds M2 => Q (d :: ds) M2) E) E) : KJ X (⟨nm, a, kp⟩ :: kws) st M Q E := fun Mx F σ H Wx p => by
  refine WK.of (pk_cons pe_W pk_W) ?_
  refine h.bind p fun d M1 F1 v H1 q1 e1 r1 p1 => ?_
  exact q1.bind p1 fun ds M2 F2 vs H2 q2 e2 r2 p2 => ⟨d :: ds, M2, F2, q2, e1.trans e2, RA.cons (r1.mono e2) r2, p2.m⟩
theorem run_fnNS {CX : CXT} {n : Nat} {f : Addr} {fd : FuncData} {ks : List Str} {sp : Sp} {EE : L2.St → XK} {g : List Value → List Value → List Value} {gV : List V → List V → List V} {pins : List (Addr × Obj)} {σ : L2.St} {H : Hp} {s : Shared} {Q : VK} {us ws : List Value} {vs zs : List V} (F : FnOk X.prog X.w X.K X.mg X.base CX k f fd ps sp) (hr : Room k X.A) (hb : KBn X.K fd ps n ks g gV) (hx : PassesAt CX X σ (EE σ))
    (I : Inv X pins σ H s) (r : Vals vs us) (rz : Vals zs ws) (l1 : vs.length = n) (l2 : zs.length = ks.length) (h : sp (gV vs zs) H Q (EE σ)) : wpAny (model X.prog X.w) X.A (call (.ref f) us (ks.zip ws)) (EP X pins σ Q) X.xe s := by
  have r2 := hb.rel r rz
  refine wpAny_call (codeAny_mono (F.run X.A X.stack s H ⟨us, ks.zip ws⟩ (g us ws) (gV vs zs) Q (EE σ) hr I.env0 (hb.to s us ws I.kIn (r.length.symm.trans l1) (rz.length.symm.trans l2)) r2 h) fun r s' hq => ?_)
  cases r with
  | error e => exact hx pins H s e s' I hq
  | ok fl =>
    cases fl with
    | ret u => exact I.after hq
    | next => exact False.elim hq
    | brk => exact False.elim hq
    | cont => exact False.elim hq
/-- a def that is called by keywords alone: g puts the keywords' values in the parameters' order -/
structure FnKw (P : Program) (w : World) (K : PySem.W.Frag) (mg : Str → Option Value) (base : Heap) (k : Nat) (x : Str) (ps ks : List Str) (g : {α : Type} → List α → List α) (c : Ct) : Prop where
  ex : ∃ f fd, mg x = some (.ref f) ∧ FnOk P w K mg base (L2.CX P w) k f fd ps (spOf K ps.length c) ∧ KBn K fd ps 0 ks (fun _ ws => g ws) (fun _ zs => g zs) ∧ PySem.W.keepIn K (.ref f) = true
theorem ej_callK {ks : List Str} {g : {α : Type} → List α → List α} {kws : List Keyword} (Fo : FnKw X.prog X.w X.K X.mg X.base k x ps ks g c) (hr : Room k X.A) (hg : Gl X x)
    (h : KJ X kws st M (fun ds M1 => ds.length = ks.length ∧ (∀ F vs, RA X.K F vs ds → RA X.K F (g vs) (g ds)) ∧ CtJ c ps.length (g ds) st M1 Q E) E)
    (hall : (backToKw pos (keywordEach kws X.env)).all (·.1.isSome) = true := by rfl) (hks : (backToKw pos (keywordEach kws X.env)).filterMap (·.1) = ks := by rfl) (hdb : (x == ("__debug__" : Str)) = false := by decide)
    (hpl : ((backTo pos (starEach [] X.env)).any (·.1) || (backToKw pos (keywordEach kws X.env)).any (·.1.isNone)) = false := by rfl) :
    EJ X (.Call (.Name x p) [] kws pos) st M Q E := fun Mx F σ H Wx p => by
  obtain ⟨f, fd, hm, Fn, hb, hk⟩ := Fo.ex
  intro pins s I
  refine wpAny_Call_Name_kw (ld_glob I hg hm ?_ hdb)
  refine PySem.W.callWith_KW0 (h₀ := X.base) I.ok.mod.kin hk hall ?_ hpl
  refine thn (KJ.bind h p (QV := fun zs H2 => zs.length = ks.length ∧ spOf X.K ps.length c (g zs) H2 (Pst X.K Mx F Q) (WE Wx σ)) (fun ds M1 F1 vs H1 ⟨hl, hgr, q⟩ e1 r1 p1 => ⟨by rw [r1.1, hl], ct_sp q p1 (hgr _ _ r1) fun v H' z => z.mono e1⟩) _ pins s I) fun ws s2 ⟨zs, H2, I2, rz, l2, q2⟩ => ⟨I2.kIn, ?_⟩
  rw [hks]
  exact run_fnNS (us := []) (vs := []) (EE := WE Wx) Fn hr hb (passAt p.tk σ) I2 .nil rz rfl l2 q2
end
end SL

set_option maxHeartbeats 2000000
/-! Errors of the program's own classes; isinstance; the head's facts. -/
namespace SL
open PySem PySem.Spec PyProof.Rows L2 Evl

/-! ### an error class: __init__(self, f) stores f -/
def oexB (K : PySem.W.Frag) (C : Addr) : Bool := match K.lookup C with
  | some ⟨.type "type", _, .cls cd, sl⟩ => (match cd.mro, sl.toList with
    | .ref C' :: bm, [_, _, _, _, some (.builtin n), _] => C' == C && n == "ValueError.__new__" && !cd.hasDel && cd.hasDict && PySem.HandSPX.refsVE bm
    | _, _ => false)
  | _ => false
/-- the class of the module's name x, its __init__ -/
def xcB (x f : Str) (K : PySem.W.Frag) : Bool := oexB K (He.ga K x) && decide (PySem.W.findIn K (.ref (He.ga K x)) "__setattr__" = some (some (.builtin "object.__setattr__"))) && decide (PySem.W.subIn K (.ref (He.ga K x)) (.type "BaseException") = some true) &&
  decide (PySem.W.typeIn K (.ref (He.ga K x)) = some (.type "type")) && PySem.W.keepIn K (.ref (He.ga K x)) && decide (PySem.W.findIn K (.ref (He.ga K x)) "__init__" = some (some (.ref (He.ma K (He.ga K x) "__init__")))) &&
  decide (PySem.W.typeIn K (.ref (He.ma K (He.ga K x) "__init__")) = some (.type "function")) && decide (PySem.W.findIn K (.ref (He.ga K x)) f = some none)
structure XcC (K : PySem.W.Frag) (C fI : Addr) (f : Str) : Prop where
  T : OexC K C
  iC : PySem.W.findIn K (.ref C) "__init__" = some (some (.ref fI))
  tI : PySem.W.typeIn K (.ref fI) = some (.type "function")
  no : PySem.W.findIn K (.ref C) f = some none
theorem xcB_ok {x f : Str} {K : PySem.W.Frag} (h : xcB x f K = true) : XcC K (He.ga K x) (He.ma K (He.ga K x) "__init__") f := by
  unfold xcB at h
  simp only [Bool.and_eq_true, decide_eq_true_eq] at h
  obtain ⟨⟨⟨⟨⟨⟨⟨h1, h2⟩, h3⟩, h4⟩, h5⟩, h6⟩, h7⟩, h8⟩ := h
  refine ⟨⟨?_, h2, h3, h4, h5⟩, h6, h7, h8⟩
  unfold oexB at h1
  split at h1
  · rename_i dd cd sl ho
    split at h1
    · rename_i C' bm k0 k1 k2 k3 n k5 hm hs
      simp only [Bool.and_eq_true, beq_iff_eq, Bool.not_eq_true'] at h1
      obtain ⟨⟨⟨⟨e1, e2⟩, hdel⟩, hdd⟩, hbm⟩ := h1
      obtain ⟨nm, bs, mro, ns, qn, hd, sn, sub, ab, col, del⟩ := cd
      dsimp only at hm hdel hdd
      subst hm hdel hdd e2 e1
      have hsl : sl = #[k0, k1, k2, k3, some (.builtin "ValueError.__new__"), k5] := by
        obtain ⟨l⟩ := sl
        simp only at hs
        rw [hs]
      subst hsl
      exact ⟨nm, qn, ns, bs, bm, sn, sub, ab, col, dd, k0, k1, k2, k3, k5, ho, hbm⟩
    · cases h1
  · cases h1
def spInit (C : Addr) (f : Str) : Sp := fun vs H Q _ => ∃ a y, vs = [.ref a, y] ∧ H a = some (exo a C none) ∧ ∀ dx, H dx = none → dx ≠ a → Q .non (upd (upd H dx (exd dx [(f, y)])) a (exo a C (some dx)))
section
variable {P : Program} {w : World} {K : PySem.W.Frag} {mg : Str → Option Value} {base : Heap} {qual f : Str} {params : Arguments} {body : List Stmt} {scope : Scope} {fI C : Addr} {fd : FuncData} {p1 p2 p3 p4 : Pos} {dvs : List V} {kws : List (Str × V)}
theorem init_ok {nm : Str} (F : FunD K nm qual params body scope dvs kws fI fd) (S : FnScope ["self", f] ["self", f] scope) (hb : body = [.Assign [.Attribute (.Name "self" p1) f p2] (.Name f p3) p4]) (T : OexC K C) (hno : PySem.W.findIn K (.ref C) f = some none) (h1 : Vis scope "self") (h2 : Vis scope f)
    (hd : (f == ("__debug__" : Str)) = false) (hcd : (f == ("__classdict__" : Str)) = false) (hs : ∀ env : Env, swapsWith (.Name f p3) (some (.Attribute (.Name "self" p1) f p2)) p4.line env = pure false) : FnOk P w K mg base (L2.CX P w) 1 fI fd ["self", f] (spInit C f) := by
  subst hb
  refine F.ok S (fun vs H Q E ⟨a, y, e, _⟩ => by subst e; rfl) fun cdv A outer s H vs Q E hr ⟨a, y, e, ea, q⟩ => ?_
  subst e
  refine ⟨_, pss_one (ps_ost (pe_var (i := 0) rfl h1) (pe_var (i := 1) rfl h2 hd hcd) (hs _)), ?_⟩
  exact ⟨y, rfl, .ref a, rfl, a, C, rfl, T, hno, .inl ⟨ea, fun dx hdx hne => q dx hdx hne⟩⟩
end
/-- a class whose calls make errors -/
structure ExcI (P : Program) (w : World) (K : PySem.W.Frag) (mg : Str → Option Value) (base : Heap) (x f : Str) (C : Addr) : Prop where
  mgx : mg x = some (.ref C)
  ex : ∃ fI fd, XcC K C fI f ∧ FnOk P w K mg base (L2.CX P w) 1 fI fd ["self", f] (spInit C f) ∧ Binds K fd ["self", f] []
section
variable {X : Cx} {a e : Expr} {es : List Expr} {st : Sls} {M Mx : Mem} {E : EK} {Q : DK} {F F' H H' : Hp} {σ : L2.St} {Wx : WX} {P : Post} {x f : Str} {p pos rpos : Pos} {C : Addr}
theorem rel_xd {K : PySem.W.Frag} {dd : Addr} {gs : List (Str × V)} (m : RelM K M F H) (h : H dd = none) : RelM K M F (upd H dd (.xd gs)) := m.newU h
theorem s1_raise (hc : X.calm = true) (XI : ExcI X.prog X.w X.K X.mg X.base x f C) (hr : Room 2 X.A) (hg : Gl X x) (h : EJ X e st M (fun d M1 => P.er ⟨C, [(f, d)]⟩ st M1) P.er)
    (hdb : (x == ("__debug__" : Str)) = false := by decide) (he : starEach (e :: []) X.env = (false, eval e X.env) :: starEach [] X.env := by rfl) (hpl : (backTo pos (starEach [] X.env)).any (·.1) = false := by rfl) :
    S1 X (.Raise (some (.Call (.Name x p) [e] [] pos)) none rpos) st M P := fun Mx F σ H Wx p hp => by
  obtain ⟨hm, fI, fd, T, Fn, hb⟩ := XI
  refine WS.of (ps_raise hc p.tk (pmk_oex T.T T.iC T.tI Fn hr hb .nil (passes_call p.tk fun _ _ _ _ z => z.elim) hg hm pa_W hdb he hpl)) ?_
  have hA : AJ X [e] st M (fun ds M2 => ∃ d, ds = [d] ∧ P.er ⟨C, [(f, d)]⟩ st M2) P.er := aj_cons (h.mono fun d M1 q => aj_nil ⟨d, rfl, q⟩) he
  refine hA.bind p fun ds M1 F1 vs H1 ⟨d, ed, q⟩ e1 r1 p1 => ?_
  subst ed
  obtain ⟨y, rfl, ry⟩ := ra1 r1
  refine ⟨by simp, fun a ha => ⟨a, y, rfl, upd_same, fun dx hdx hne => ⟨rfl, dx, [(f, y)], upd_same, by rw [upd_ne hne]; exact upd_same, by rw [upd_ne hne] at hdx; exact hdx, ?_⟩⟩⟩
  have hdx' : H1 dx = none := by rw [upd_ne hne] at hdx; exact hdx
  have eh : upd (del (upd (upd (upd H1 a (exo a C none)) dx (exd dx [(f, y)])) a (exo a C (some dx))) a) dx (.xd [(f, y)]) = upd H1 dx (.xd [(f, y)]) := by
    funext b
    by_cases q1 : b = dx
    · subst q1; rw [upd_same, upd_same]
    · rw [upd_ne q1, upd_ne q1]
      by_cases q2 : b = a
      · subst q2; rw [del_same, ha]
      · rw [del_ne q2, upd_ne q2, upd_ne q1, upd_ne q2]
  rw [eh]
  exact p.wi ⟨C, [(f, d)]⟩ st M1 F1 _ _ _ σ q e1 p1.sl ⟨rfl, dx, [(f, y)], rfl, upd_same, rfl, RA.cons ry RA.nil⟩ (p1.m.newU hdx')

/-! ### isinstance -/
/-- the name of a datum's built-in class -/
def D.tyN : D → Option String
  | .non => some "NoneType"
  | .bl _ => some "bool"
  | .int _ => some "int"
  | .str _ => some "str"
  | .lst _ => some "list"
  | .fz _ => some "list"
  | .tup _ => some "tuple"
  | .dct _ => some "dict"
  | _ => none
/-- n is m or comes from it -/
def isN (n m : String) : Bool := n == m || (n == "bool" && m == "int")
theorem tyx_of {K : PySem.W.Frag} {F H : Hp} (ex : Ex F H) {v : V} {d : D} {n : String} (r : R K F v d) (h : d.tyN = some n) : TyX K H v (.type n) := by
  cases r with
  | non => cases h; exact .base .non
  | bl b => cases h; exact .base (.bl b)
  | int b => cases h; exact .base (.int b)
  | str b => cases h; exact .base (.str b)
  | ty n => cases h
  | lst h1 h2 h3 => cases h; exact .base (.lst (ex _ _ h1))
  | tup h1 h2 h3 =>
    cases h
    rcases ex_t ex h1 with q | ⟨o, its, n, q, c, _⟩
    · rcases q with q | ⟨o, q⟩
      · exact .base (.tup q)
      · exact .fTuple q
    · exact .kTuple q c
  | dct h1 h2 h3 => cases h; exact .base (.dK (ex _ _ h1))
  | ins h1 h2 h3 => cases h
  | fz h1 h2 h3 =>
    cases h
    rcases ex_l ex h1 with q | ⟨o, its, n, q, c, _⟩
    · rcases q with q | ⟨o, q⟩
      · exact .base (.lst q)
      · exact .base (.frz q)
    · exact .kList q c
  | raw v => cases h
def tyNs : List String := ["NoneType", "bool", "int", "str", "list", "tuple", "dict"]
theorem tyN_mem {d : D} {n : String} (h : d.tyN = some n) : n ∈ tyNs := by
  cases d <;> cases h <;> decide
theorem kitB_all : ∀ n ∈ tyNs, ∀ m ∈ tyNs, kitB n m = some (isN n m) := by decide +kernel
theorem kit_all {K : PySem.W.Frag} {d : D} {n m : String} (h : d.tyN = some n) (hm : m ∈ tyNs) : PySem.W.kitOne K (.type n) (.type m) = some (isN n m) := kit_ty (kitB_all n (tyN_mem h) m hm)
theorem cd_isi {d : D} {n m : String} (hd : d.tyN = some n) (hm : m ∈ tyNs) (q : Q (.bl (isN n m)) M) : ClD X (.builtin "isinstance") [d, .ty m] M Q := fun Mx F H vs QV p r k => by
  obtain ⟨v, w, rfl, r1, r2⟩ := ra2 r
  cases r2
  exact rCl.of call_isi ⟨v, _, _, _, _, rfl, .ty m, tyx_of p.m.ex r1 hd, kit_all hd hm, k _ _ (pst_same p.m (.bl _) q)⟩
/-- isinstance(x, (c1, c2, ..)), the tuple any -/
theorem call_isiS : CallR X (.builtin "isinstance") (fun xs H Q => ∃ (x : V) (tp : Addr) (cs : List V) (t : Value) (us : List Value) (b : Bool), xs = [x, .ref tp] ∧ SqT X.K H tp cs ∧ Paired ClsV cs us ∧ TyX X.K H x t ∧ PySem.W.kitAny X.K t us = some b ∧ Q (.bl b) H) := by
  intro pins s σ H xs us Q I r h
  obtain ⟨x, tp, cs, t, ws, b, rfl, hT, k, ty, e, q⟩ := h
  obtain ⟨u1, u2, rfl, r1, r2⟩ := vals2 r
  cases (show u2 = Value.ref tp from r2)
  obtain ⟨P, Z, p, hx⟩ := kit_of I r1 ty
  obtain ⟨its, rv, ⟨o, h1, h2, n, h3⟩, _⟩ := I.tuple hT
  have e3 := ClsV.all k rv
  subst e3
  obtain ⟨oc, od, dt, sl⟩ := o
  simp only at h2 h3
  subst h2 h3
  exact PySem.W.kia_tup Z I.kIn p h1 e hx fun tk => ⟨.bl b, H, I.tok tk, rfl, q⟩
theorem cd_isi2 {d : D} {n m1 m2 : String} (hd : d.tyN = some n) (h1 : m1 ∈ tyNs) (h2 : m2 ∈ tyNs) (q : Q (.bl (isN n m1 || isN n m2)) M) : ClD X (.builtin "isinstance") [d, .tup [.ty m1, .ty m2]] M Q := fun Mx F H vs QV p r k => by
  obtain ⟨v, w, rfl, r1, r2⟩ := ra2 r
  obtain ⟨tp, cs, rfl, hT, rc⟩ := r2.tuple p.m.ex
  obtain ⟨c1, c2, rfl, rc1, rc2⟩ := ra2 rc
  cases rc1
  cases rc2
  refine rCl.of call_isiS ⟨v, tp, _, _, [.type m1, .type m2], isN n m1 || isN n m2, rfl, hT, .cons (.ty m1) (.cons (.ty m2) .nil), tyx_of p.m.ex r1 hd, ?_, k _ _ (pst_same p.m (.bl _) q)⟩
  refine kitAny_cons (kit_all hd h1) (fun e => ?_) (fun e => by rw [e]; rfl)
  rw [e]
  exact kitAny_cons (kit_all hd h2) (fun e => by rw [e]; exact kitAny_nil) (fun e => by rw [e]; rfl)
end

/-! ### the head's facts, with facts of our own -/
open He in
def obsX (xs : List (PySem.W.Frag → Bool)) (fa : List Fa) (fn : List DefD) (K : PySem.W.Frag) : AlD × Bool := (obsD fa fn K, xs.all fun g => g K)
open He in
def SaysX (xs : List (PySem.W.Frag → Bool)) (fa : List Fa) (fn : List DefD) (K : PySem.W.Frag) : Prop := obsX xs fa fn K = (valD fn, true)
open He in
def obsXG (n : Nat) (xs : List (PySem.W.Frag → Bool)) (fa : List Fa) (fn : List DefD) (g : Addr → Option Obj) : AlD × Bool := obsX xs fa fn (frG g (asD g n))
open He in
def hookX (n : Nat) (xs : List (PySem.W.Frag → Bool)) (fa : List Fa) (fn : List DefD) : PySem.W.Hook where
  α := AlD × Bool
  obs := fun s => obsXG n xs fa fn s.heap.get?
  val := fun _ => (valD fn, true)
  says := fun _ h => ∃ K : PySem.W.Frag, K.In h ∧ SaysX xs fa fn K
  of := fun _ _ e => ⟨_, frG_in, e⟩
  keeps := fun _ _ _ ⟨K, hK, c⟩ k => ⟨K, PySem.W.Frag.In.keeps hK k, c⟩
theorem obsXG_eq {n : Nat} {xs : List (PySem.W.Frag → Bool)} {fa : List He.Fa} {fn : List He.DefD} {g : Addr → Option Obj} {s : Shared} (h : ∀ a, g a = s.heap.get? a) : obsXG n xs fa fn g = (hookX n xs fa fn).obs s := by
  have e : g = s.heap.get? := funext h
  rw [e] <;> rfl
theorem SaysX.says {xs : List (PySem.W.Frag → Bool)} {fa : List He.Fa} {fn : List He.DefD} {K : PySem.W.Frag} (c : SaysX xs fa fn K) : He.SaysD fa fn K := congrArg (fun z : He.AlD × Bool => z.1) c
theorem SaysX.own {xs : List (PySem.W.Frag → Bool)} {fa : List He.Fa} {fn : List He.DefD} {K : PySem.W.Frag} (c : SaysX xs fa fn K) {g : PySem.W.Frag → Bool} (h : g ∈ xs) : g K = true :=
  List.all_eq_true.mp (congrArg (fun z : He.AlD × Bool => z.2) c) g h

/-! ### the end of a law, the script's bits told -/
theorem walk_ofX {l : PySem.W.OpenLaw} {n k : Nat} {q : Program} {loose : List Str} {XP : (Str → Option Value) → Heap → Prop} {YP : World → Heap → Prop} {d : DefRec} {x : Str} {c : Ct}
    (hn : l.most = some n) (hn2 : n ≤ sizeLine) (hdf : d.params.defaults = []) (hr : Room k callerA)
    (F : ∀ (w : World) (mg : Str → Option Value) (fa : Addr) (h : Heap), YP w h → h.Ns mainGlobals mg → mg d.name = some (.ref fa) →
      ∃ (K : PySem.W.Frag) (fd : FuncData), K.In h ∧ (∀ (s : Shared) (u : Value), BindsTo s fd ⟨[u], []⟩ [(x, u)]) ∧
        ∀ base : Heap, K.In base → base.Ns mainGlobals mg → FnOk l.prog w K mg base (L2.CX l.prog w) k fa fd [x] (spOf K 1 c))
    (hc : ∀ ns : List Int, ns.length ≤ n → (∀ z ∈ ns, Builtin.Int.intBits z ≤ 1048576) → c [.fz (ns.map .int)] [] (fun d M' => d = .bl true) (fun _ _ => False)) :
    PySem.W.WalkO q loose XP YP l.row.toRowW d [] (fun f vs => PySem.call f vs) := by
  refine Att.attach_callB hn hdf fun w s₀ s₁ mg mb fa o pm cd doc a vs ns G Y ho hd hcd hmg hobj hints hlen hbits hg => ?_
  obtain ⟨K, fd, KX, hb, hF⟩ := F w mg fa _ Y G.T.g hmg
  refine law_call KX G.T.g G.T.b G.T.builtins G.T.nolimit hg hobj hints (Nat.le_trans hlen hn2) hr hF hb (fun H hO hS => ⟨rfl, [.fz (ns.map .int)], [], [], H, _, _, ⟨Ex.refl H, List.nodup_nil, fun p hp => absurd hp (by simp)⟩, RA.cons ?_ RA.nil, hc ns hlen hbits, fun v H' ⟨d, M', F', ed, ex, r, m⟩ => ?_, fun er M' F' H' cls d z => False.elim z⟩) fun H e s' h => ?_
  · have z : RA K H (ns.map V.int) (ns.map D.int) := ints_ra
    exact .fz hS z.1 z.2
  · subst ed
    cases r
    rfl
  · obtain ⟨_, _, _, _, _, _, _, _, _, _, _, _, z⟩ := h
    exact z
end SL

set_option maxHeartbeats 2000000
/-! The rules dressed for a walk by tactics. -/
namespace SL
open PySem PySem.Spec PyProof.Rows L2 Evl

/-- a mark: the name x has the slot i -/
def Nm (i : Nat) (x : Str) : Prop := True
def visB (sc : Scope) (x : Str) : Bool := match sc.names.lookup x with
  | some .local => true
  | some .cell => true
  | some .free => true
  | _ => false
theorem vis_of {sc : Scope} {x : Str} (h : visB sc x = true) : Vis sc x := by
  unfold visB at h
  unfold Vis
  split at h
  · exact .inl (by assumption)
  · exact .inr (.inl (by assumption))
  · exact .inr (.inr (by assumption))
  · cases h
def locB (sc : Scope) (x : Str) : Bool := match sc.names.lookup x with
  | some .local => true
  | some .cell => true
  | _ => false
theorem loc_of {sc : Scope} {x : Str} (h : locB sc x = true) : Loc sc x := by
  unfold locB at h
  unfold L2.Loc
  split at h
  · exact .inl (by assumption)
  · exact .inr (by assumption)
  · cases h
def plainN (x : Str) : Bool := !(x == ("__debug__" : Str)) && !(x == ("__classdict__" : Str))
theorem plainN_1 {x : Str} (h : plainN x = true) : (x == ("__debug__" : Str)) = false := by
  unfold plainN at h
  simp only [Bool.and_eq_true, Bool.not_eq_true'] at h
  exact h.1
theorem plainN_2 {x : Str} (h : plainN x = true) : (x == ("__classdict__" : Str)) = false := by
  unfold plainN at h
  simp only [Bool.and_eq_true, Bool.not_eq_true'] at h
  exact h.2
/-- a built-in function, a built-in class, a constant of the module -/
structure Bt (mg : Str → Option Value) (x : Str) (id : String) : Prop where
  m : mg x = none
  b : bootBuiltins x = some (.builtin id)
  n : x ≠ "__name__"
  d : (x == ("__debug__" : Str)) = false
structure Bty (mg : Str → Option Value) (x : Str) (n : String) : Prop where
  m : mg x = none
  b : bootBuiltins x = some (.type n)
  n : x ≠ "__name__"
  d : (x == ("__debug__" : Str)) = false
structure Cn (mg : Str → Option Value) (x : Str) (d : D) : Prop where
  m : ∃ u v, mg x = some u ∧ RelV v u ∧ ∀ K F, R K F v d
  d : (x == ("__debug__" : Str)) = false
theorem Cn.int {mg : Str → Option Value} {x : Str} {i : Int} (h : ∃ t, mg x = some (.int i t)) (hd : (x == ("__debug__" : Str)) = false) : Cn mg x (.int i) := ⟨let ⟨t, e⟩ := h; ⟨_, .int i, e, ⟨t, rfl⟩, fun _ _ => .int i⟩, hd⟩
theorem Cn.str {mg : Str → Option Value} {x z : Str} (h : ∃ t, mg x = some (.str z t)) (hd : (x == ("__debug__" : Str)) = false) : Cn mg x (.str z) := ⟨let ⟨t, e⟩ := h; ⟨_, .str z, e, ⟨t, rfl⟩, fun _ _ => .str z⟩, hd⟩
/-- what is known of a context: the ground, the names, the scope, which names' cells are its own, the room -/
structure Cf (X : Cx) (P : Program) (w : World) (K : PySem.W.Frag) (mg : Str → Option Value) (base : Heap) (N : List Str) (sc : Scope) (fn : Str → Bool) (j : Nat) : Prop where
  p : X.prog = P
  w : X.w = w
  k : X.K = K
  m : X.mg = mg
  b : X.base = base
  n : X.N = N
  sc : X.env.scope = sc
  fn : X.fn = fn
  room : Room j X.A
  calm : X.calm = true
  nd : N.Nodup
theorem Bd.cf {P : Program} {w : World} {K : PySem.W.Frag} {mg : Str → Option Value} {base : Heap} {k : Nat} {N ps : List Str} {qual : Str} {scope : Scope} {f : Addr} {X : Cx} (h : Bd P w K mg base k N qual scope f X) (S : FnScope N ps scope) : Cf X P w K mg base N scope (fun _ => true) k := by
  obtain ⟨⟨cdv, A, outer, s, H, E, rfl⟩, hr⟩ := h
  exact ⟨rfl, rfl, rfl, rfl, rfl, rfl, rfl, rfl, hr, rfl, S.nd⟩
theorem Cf.blk {X Y : Cx} {P : Program} {w : World} {K : PySem.W.Frag} {mg : Str → Option Value} {base : Heap} {N : List Str} {sc scope : Scope} {fn : Str → Bool} {j : Nat} (c : Cf X P w K mg base N sc fn j) (h : BX X scope Y) :
    Cf Y P w K mg base N (relS scope sc) (fun x => scope.names.lookup x == some .cell) j := by
  obtain ⟨s, H, C, cl, fp, rfl⟩ := h
  exact ⟨c.p, c.w, c.k, c.m, c.b, c.n, by rw [← c.sc]; rfl, rfl, c.room, c.calm, c.nd⟩
/-- a def's own context, whatever its environment is -/
structure PassW (X : Cx) : Prop where
  p : True
section
variable {X : Cx} {e a b c : Expr} {es : List Expr} {st : Sls} {M Mx : Mem} {E : EK} {Q : DK} {P : Post} {x : Str} {pos p : Pos} {mg : Str → Option Value} {id : String} {d : D} {Pr : Program} {w : World} {K : PySem.W.Frag} {base : Heap} {N : List Str} {sc : Scope} {fn : Str → Bool} {j : Nat}
theorem ej_nm {i : Nat} (h0 : Nm i x) (cf : Cf X Pr w K mg base N sc fn j) (hN : N[i]? = some x) (hv : visB sc x = true) (hd : st[i]? = some (some d)) (hp : plainN x = true) (h : Q d M) : EJ X (.Name x pos) st M Q E :=
  ej_name i (by rw [cf.n]; exact hN) (by rw [cf.sc]; exact vis_of hv) hd h (plainN_1 hp) (plainN_2 hp)
theorem gl_of (cf : Cf X Pr w K mg base N sc fn j) (hg : sc.names.lookup x = some .globalImplicit) : Gl X x := by
  show X.env.scope.names.lookup x = _
  rw [cf.sc]; exact hg
theorem ej_cB (hB : Bt mg x id) (cf : Cf X Pr w K mg base N sc fn j) (hg : sc.names.lookup x = some .globalImplicit) (h : AJ X (a :: es) st M (fun ds M1 => ClD X (.builtin id) ds M1 Q) E)
    (he : starEach (a :: es) X.env = (false, eval a X.env) :: starEach es X.env := by rfl) (hpl : (backTo pos (starEach es X.env)).any (·.1) = false := by rfl) : EJ X (.Call (.Name x p) (a :: es) [] pos) st M Q E :=
  ej_callB h (gl_of cf hg) (by rw [cf.m]; exact hB.m) hB.b hB.n hB.d he hpl
theorem ej_cT (hB : Bty mg x id) (cf : Cf X Pr w K mg base N sc fn j) (hg : sc.names.lookup x = some .globalImplicit) (h : AJ X (a :: es) st M (fun ds M1 => ClD X (.type id) ds M1 Q) E)
    (he : starEach (a :: es) X.env = (false, eval a X.env) :: starEach es X.env := by rfl) (hpl : (backTo pos (starEach es X.env)).any (·.1) = false := by rfl) : EJ X (.Call (.Name x p) (a :: es) [] pos) st M Q E :=
  ej_callTy h (gl_of cf hg) (by rw [cf.m]; exact hB.m) hB.b hB.n hB.d he hpl
theorem ej_ty (hB : Bty mg x id) (cf : Cf X Pr w K mg base N sc fn j) (hg : sc.names.lookup x = some .globalImplicit) (h : Q (.ty id) M) : EJ X (.Name x pos) st M Q E := ej_bty (gl_of cf hg) (by rw [cf.m]; exact hB.m) hB.b h hB.n hB.d
theorem ej_cn (hB : Cn mg x d) (cf : Cf X Pr w K mg base N sc fn j) (hg : sc.names.lookup x = some .globalImplicit) (h : Q d M) : EJ X (.Name x pos) st M Q E := by
  obtain ⟨u, v, h1, h2, h3⟩ := hB.m
  exact ej_glob (gl_of cf hg) (by rw [cf.m]; exact h1) h2 (fun F => h3 X.K F) h hB.d
theorem ej_fn {k : Nat} {ps : List Str} {ct : Ct} (Fo : FnI Pr w K mg base k x ps ct) (cf : Cf X Pr w K mg base N sc fn j) (hk : Nat.ble k j = true) (hg : sc.names.lookup x = some .globalImplicit) (hp : plainN x = true) (h : AJ X (a :: es) st M (fun ds M1 => CtJ ct ps.length ds st M1 Q E) E)
    (he : starEach (a :: es) X.env = (false, eval a X.env) :: starEach es X.env := by rfl) (hpl : (backTo pos (starEach es X.env)).any (·.1) = false := by rfl) : EJ X (.Call (.Name x p) (a :: es) [] pos) st M Q E := by
  have hg' := gl_of cf hg
  obtain ⟨rfl, rfl, rfl, rfl, rfl, _, _, _, hr, _, _⟩ := cf
  exact ej_call Fo (hr.mono (Nat.le_of_ble_eq_true hk)) hg' h (plainN_1 hp) he hpl
theorem ej_fnK {k : Nat} {ps ks : List Str} {gk : {α : Type} → List α → List α} {ct : Ct} {kws : List Keyword} (Fo : FnKw Pr w K mg base k x ps ks gk ct) (cf : Cf X Pr w K mg base N sc fn j) (hk : Nat.ble k j = true) (hg : sc.names.lookup x = some .globalImplicit) (hp : plainN x = true)
    (h : KJ X kws st M (fun ds M1 => ds.length = ks.length ∧ (∀ F vs, RA X.K F vs ds → RA X.K F (gk vs) (gk ds)) ∧ CtJ ct ps.length (gk ds) st M1 Q E) E)
    (hall : (backToKw pos (keywordEach kws X.env)).all (·.1.isSome) = true := by rfl) (hks : (backToKw pos (keywordEach kws X.env)).filterMap (·.1) = ks := by rfl)
    (hpl : ((backTo pos (starEach [] X.env)).any (·.1) || (backToKw pos (keywordEach kws X.env)).any (·.1.isNone)) = false := by rfl) : EJ X (.Call (.Name x p) [] kws pos) st M Q E := by
  have hg' := gl_of cf hg
  obtain ⟨rfl, rfl, rfl, rfl, rfl, _, _, _, hr, _, _⟩ := cf
  exact ej_callK Fo (hr.mono (Nat.le_of_ble_eq_true hk)) hg' h hall hks (plainN_1 hp) hpl
theorem s1_rs {C : Addr} {f : Str} {rpos : Pos} (XI : ExcI Pr w K mg base x f C) (cf : Cf X Pr w K mg base N sc fn j) (hk : Nat.ble 2 j = true) (hg : sc.names.lookup x = some .globalImplicit) (hp : plainN x = true) (h : EJ X e st M (fun d M1 => P.er ⟨C, [(f, d)]⟩ st M1) P.er)
    (he : starEach (e :: []) X.env = (false, eval e X.env) :: starEach [] X.env := by rfl) (hpl : (backTo pos (starEach [] X.env)).any (·.1) = false := by rfl) : S1 X (.Raise (some (.Call (.Name x p) [e] [] pos)) none rpos) st M P := by
  have hg' := gl_of cf hg
  obtain ⟨rfl, rfl, rfl, rfl, rfl, _, _, _, hr, hc, _⟩ := cf
  exact s1_raise hc XI (hr.mono (Nat.le_of_ble_eq_true hk)) hg' h (plainN_1 hp) he hpl
theorem s1_nm {i : Nat} {p' : Pos} (h0 : Nm i x) (cf : Cf X Pr w K mg base N sc fn j) (hi : N[i]? = some x) (hx : locB sc x = true) (hf : (fn x || sc.names.lookup x == some .local) = true) (h : EJ X e st M (fun d M1 => P.nx (st.set i (some d)) M1) P.er) (hs : swapsWith e (some (.Name x p')) pos.line X.env = pure false := by rfl) :
    S1 X (.Assign [.Name x p'] e pos) st M P := s1_set i (by rw [cf.n]; exact cf.nd) (by rw [cf.n]; exact hi) (by rw [cf.sc]; exact loc_of hx) h hs (by rw [cf.fn, cf.sc]; simpa using hf)
theorem s1_ag {i : Nat} {p' : Pos} {op : Operator} {d0 : D} (h0 : Nm i x) (cf : Cf X Pr w K mg base N sc fn j) (hi : N[i]? = some x) (hx : locB sc x = true) (hf : (fn x || sc.names.lookup x == some .local) = true) (hd : st[i]? = some (some d0)) (h : EJ X e st M (fun d M1 => OpD X (inplaceOp op) d0 d M1 (fun d2 M2 => P.nx (st.set i (some d2)) M2)) P.er) :
    S1 X (.AugAssign (.Name x p') op e pos) st M P := s1_aug i (by rw [cf.n]; exact cf.nd) (by rw [cf.n]; exact hi) (by rw [cf.sc]; exact loc_of hx) hd h (by rw [cf.fn, cf.sc]; simpa using hf)
theorem gj_nm {i : Nat} {Q : Sls → Mem → Prop} (h0 : Nm i x) (cf : Cf X Pr w K mg base N sc fn j) (hi : N[i]? = some x) (hx : locB sc x = true) (hf : (fn x || sc.names.lookup x == some .local) = true) (h : Q (st.set i (some d)) M) : GJ X (.Name x pos) [i] d st M Q :=
  gj_name i (by rw [cf.n]; exact cf.nd) (by rw [cf.n]; exact hi) (by rw [cf.sc]; exact loc_of hx) h (by rw [cf.fn, cf.sc]; simpa using hf)
theorem GJ.mono {js : List Nat} {Q Q' : Sls → Mem → Prop} {tg : Expr} (h : GJ X tg js d st M Q) (k : ∀ s M, Q s M → Q' s M) : GJ X tg js d st M Q' := fun Mx F σ H v sl p r =>
  WG.imp (h Mx F σ H v sl p r) fun σ' H' ⟨h1, h2, st', M', F', q, z⟩ => ⟨h1, h2, st', M', F', k _ _ q, z⟩
theorem gj_tp {js : List Nat} {ds : List D} {kk : Nat} {Q : Sls → Mem → Prop} (cf : Cf X Pr w K mg base N sc fn j) (h : GsJ X es js ds st M Q) (hl : es.length = ds.length := by rfl) (hn : (assignEach es X.env).length = es.length := by rfl) (hst : (assignEach es X.env).findIdx? (·.1) = none := by rfl) : GJ X (.Tuple es kk pos) js (.tup ds) st M Q := gj_tup cf.calm h hl hn hst
theorem s1_pr {i i2 : Nat} {y : Str} {px py pt : Pos} {kt k2 pt2} (h0 : Nm i x) (h1 : Nm i2 y) (cf : Cf X Pr w K mg base N sc fn j) (hi : N[i]? = some x) (hj : N[i2]? = some y) (hij : i ≠ i2)
    (hx : sc.names.lookup x = some .local) (hy : sc.names.lookup y = some .local)
    (h : AJ X [a, b] st M (fun ds M1 => ∃ d1 d2, ds = [d1, d2] ∧ P.nx ((st.set i (some d1)).set i2 (some d2)) M1) P.er)
    (hw : swappedStores [.Tuple [.Name x px, .Name y py] kt pt] (.Tuple [a, b] k2 pt2) X.env = pure (some [x, y]))
    (hs : swapsWithSole [.Tuple [.Name x px, .Name y py] kt pt] (.Tuple [a, b] k2 pt2) pos.line X.env = pure false := by rfl) :
    S1 X (.Assign [.Tuple [.Name x px, .Name y py] kt pt] (.Tuple [a, b] k2 pt2) pos) st M P :=
  s1_par i i2 cf.calm (by rw [cf.n]; exact cf.nd) (by rw [cf.n]; exact hi) (by rw [cf.n]; exact hj) hij (by rw [cf.sc]; exact hx) (by rw [cf.sc]; exact hy) h hw hs
variable {tg iter elt : Expr} {ifs : List Expr} {scope : Scope} {QI : List D → Mem → Prop}
theorem s1_fr {body : List Stmt} {js : List Nat} (cf : Cf X Pr w K mg base N sc fn j) (I : Nat → Sls → Mem → Prop) (h : IJ X tg iter st M (fun ds M1 => I 0 st M1 ∧
      (∀ i d st' M', ds[i]? = some d → I i st' M' → GJ X tg js d st' M' (fun st2 M2 => SJ X body st2 M2 { P with nx := I (i + 1), ct := I (i + 1), bk := P.nx })) ∧ ∀ st' M', I ds.length st' M' → P.nx st' M') P.er)
    (hs : ∀ x, foldedSetIterable iter X.env x = pure x := by intro _; rfl) : S1 X (.For tg iter body [] pos) st M P := s1_for cf.calm (fun Mx F σ H Wx p pins s I0 => thn (h Mx F σ H Wx p pins s I0) fun v s1 h1 => thn h1 fun itv s2 ⟨it, fp, tn, J, H2, e0, I2, T, st2, f2, ds, M1, F1, q, r⟩ => ⟨it, fp, tn, J, H2, e0, I2, T, st2, f2, ds, M1, F1, ⟨I, q⟩, r⟩) hs
/-- own: the block's own names, with their slots -/
theorem ej_cp (own : List (Str × Nat)) (cf : Cf X Pr w K mg base N sc fn j) (ok : blkC N sc scope own = true)
    (h : IJ X tg iter st M (fun ds M1 => LcJ X elt tg ifs scope (own.map (·.2)) st ds M1 (fun acc M2 => Q (.lst acc) M2)) E) (hs : ∀ x, foldedSetIterable iter X.env x = pure x := by intro _; rfl) :
    EJ X (.ListComp elt [⟨tg, iter, ifs, 0⟩] scope pos) st M Q E := ej_lc own cf.calm (by rw [cf.n]; exact cf.nd) (by rw [cf.n, cf.sc]; exact blkOk_by ok) h hs
theorem ej_cpO (own : List (Str × Nat)) (cf : Cf X Pr w K mg base N sc fn j) (ok : blkC N sc scope own = true)
    (h : IJ X tg iter st M (fun ds M1 => LcJ X elt tg ifs scope (own.map (·.2)) st ds M1 (fun acc M2 => ∀ l, Q (.raw (.ref l)) ((l, .lst acc) :: M2))) E) (hs : ∀ x, foldedSetIterable iter X.env x = pure x := by intro _; rfl) :
    EJ X (.ListComp elt [⟨tg, iter, ifs, 0⟩] scope pos) st M Q E := ej_lcO own cf.calm (by rw [cf.n]; exact cf.nd) (by rw [cf.n, cf.sc]; exact blkOk_by ok) h hs
theorem ij_nm {i : Nat} {ds : List D} (h0 : Nm i x) (cf : Cf X Pr w K mg base N sc fn j) (hN : N[i]? = some x) (hv : visB sc x = true) (hd : st[i]? = some (some d)) (hp : plainN x = true) (hs : d = .lst ds ∨ d = .fz ds ∨ d = .tup ds) (q : QI ds M) : IJ X tg (.Name x pos) st M QI E := by
  rcases hs with rfl | rfl | rfl
  · exact ij_list (ej_nm h0 cf hN hv hd hp ⟨ds, .inl rfl, q⟩)
  · exact ij_list (ej_nm h0 cf hN hv hd hp ⟨ds, .inr rfl, q⟩)
  · exact ij_tuple (ej_nm h0 cf hN hv hd hp ⟨ds, rfl, q⟩)
theorem ij_zp {p1 tpos : Pos} {elts : List Expr} {kk : Nat} (hB : mg "zip" = none) (cf : Cf X Pr w K mg base N sc fn j) (hg : sc.names.lookup ("zip" : Str) = some .globalImplicit) (h : AJ X [a, b] st M (fun ds M1 => ∃ d e xs ys, ds = [d, e] ∧ (d = .lst xs ∨ d = .fz xs ∨ d = .tup xs) ∧ (e = .lst ys ∨ e = .fz ys ∨ e = .tup ys) ∧ QI (zipD xs ys) M1) E)
    (hs : starEach [a, b] X.env = (false, eval a X.env) :: starEach [b] X.env := by rfl) (hpl : (backTo pos (starEach [b] X.env)).any (·.1) = false := by rfl) :
    IJ X (.Tuple elts kk tpos) (.Call (.Name "zip" p1) [a, b] [] pos) st M QI E := ij_zip h (gl_of cf hg) (by rw [cf.m]; exact hB) hs hpl
theorem ij_r1 {p1 : Pos} (hB : Bty mg "range" "range") (cf : Cf X Pr w K mg base N sc fn j) (hg : sc.names.lookup ("range" : Str) = some .globalImplicit) (h : AJ X [a] st M (fun ds M1 => ∃ j : Int, ds = [.int j] ∧ (-(2 ^ 60) ≤ j ∧ j < 2 ^ 60) ∧ QI (rngD 0 j.toNat) M1) E) (hs : starEach [a] X.env = [(false, eval a X.env)] := by rfl) :
    IJ X tg (.Call (.Name "range" p1) [a] [] pos) st M QI E := ij_range1 (fun Mx F σ H Wx p pos pins s I => thn (h Mx F σ H Wx p pos pins s I) fun us s1 ⟨vs, H', I', r, ds, M', F', ⟨j, e1, e2, q⟩, z⟩ => ⟨vs, H', I', r, ds, M', F', ⟨j, e1, e2.1, e2.2, q⟩, z⟩) (gl_of cf hg) (by rw [cf.m]; exact hB.m) hs
theorem ij_r2 {p1 : Pos} (hB : Bty mg "range" "range") (cf : Cf X Pr w K mg base N sc fn j) (hg : sc.names.lookup ("range" : Str) = some .globalImplicit) (h : AJ X [a, b] st M (fun ds M1 => ∃ i j : Int, ds = [.int i, .int j] ∧ (-(2 ^ 60) ≤ i ∧ i < 2 ^ 60 ∧ -(2 ^ 60) ≤ j ∧ j < 2 ^ 60) ∧ QI (rngD i (j - i).toNat) M1) E)
    (hs : starEach [a, b] X.env = [(false, eval a X.env), (false, eval b X.env)] := by rfl) (hs2 : starEach [b] X.env = [(false, eval b X.env)] := by rfl) : IJ X tg (.Call (.Name "range" p1) [a, b] [] pos) st M QI E := ij_range2 h (gl_of cf hg) (by rw [cf.m]; exact hB.m) hs hs2
theorem ij_en {p1 tpos : Pos} {elts : List Expr} {kk : Nat} (hB : mg "enumerate" = none) (cf : Cf X Pr w K mg base N sc fn j) (hg : sc.names.lookup ("enumerate" : Str) = some .globalImplicit) (h : AJ X [a] st M (fun ds M1 => ∃ d xs, ds = [d] ∧ (d = .lst xs ∨ d = .fz xs ∨ d = .tup xs) ∧ QI (enumF 0 xs) M1) E) (hs : starEach [a] X.env = [(false, eval a X.env)] := by rfl) :
    IJ X (.Tuple elts kk tpos) (.Call (.Name "enumerate" p1) [a] [] pos) st M QI E := ij_enumF h (gl_of cf hg) (by rw [cf.m]; exact hB) hs
theorem oj_none {Q : Option Int → Mem → Prop} (h : Q none M) : OJ X none st M Q E := h
theorem oj_some {Q : Option Int → Mem → Prop} (h : EJ X e st M (fun d M1 => ∃ i, d = .int i ∧ Q (some i) M1) E) : OJ X (some e) st M Q E := h
theorem oi_add {i k : Int} (h : Q (.int (i + k)) M) : OpD X (inplaceOp .Add) (.int i) (.int k) M Q := fun Mx F H v1 v2 QV p r1 r2 kk => by
  cases r1; cases r2
  exact fun pins s σ v u I rx ry => ip_add pins s σ H _ _ v u _ I rx ry ⟨i, k, rfl, rfl, kk _ _ (pst_same p.m (.int _) h)⟩
theorem oi_sub {i k : Int} (h : Q (.int (i - k)) M) : OpD X (inplaceOp .Sub) (.int i) (.int k) M Q := fun Mx F H v1 v2 QV p r1 r2 kk => by
  cases r1; cases r2
  exact fun pins s σ v u I rx ry => ip_sub pins s σ H _ _ v u _ I rx ry ⟨i, k, rfl, rfl, kk _ _ (pst_same p.m (.int _) h)⟩
/-! truth of data as a test -/
theorem ite_dec {p : Prop} [Decidable p] {A B : Prop} (h1 : p → A) (h2 : ¬p → B) : if decide p = true then A else B := by
  by_cases h : p
  · rw [if_pos (decide_eq_true h)]; exact h1 h
  · rw [if_neg (by simpa using h)]; exact h2 h
theorem ite_ndec {p : Prop} [Decidable p] {A B : Prop} (h1 : ¬p → A) (h2 : p → B) : if (!decide p) = true then A else B := by
  by_cases h : p
  · rw [if_neg (by simpa using h)]; exact h2 h
  · rw [if_pos (by simpa using h)]; exact h1 h
theorem ite_b {c : Bool} {A B : Prop} (h1 : c = true → A) (h2 : c = false → B) : if c = true then A else B := by
  cases c with
  | true => exact h1 rfl
  | false => exact h2 rfl
theorem ite_nf {A B : Prop} (h : A) : if (!false) = true then A else B := h
theorem ite_nt {A B : Prop} (h : B) : if (!true) = true then A else B := h
theorem ite_t {A B : Prop} (h : A) : if true = true then A else B := h
theorem ite_f {A B : Prop} (h : B) : if false = true then A else B := h
/-- a call as a test -/
theorem tj_b {Q : BK} (h : EJ X e st M (fun d M1 => ∃ k, d = .bl k ∧ Q k M1) E) (he : ∀ whole, isTrue e X.env whole = (do let v ← whole; standAt e.pos; holding [v] (truthy v))) : TJ X e st M Q E :=
  tj_val (h.mono fun d M1 ⟨k, ek, q⟩ Mx F H v QV p r kk => by
    subst ek
    cases r
    exact rTr.of tru_ok ⟨k, rfl, kk _ _ ⟨M1, F, q, Ex.refl F, p.m⟩⟩) he
/-- a comprehension that maps, nothing is changed -/
theorem lcj_map {vs : List Nat} {ds : List D} {Q : List D → Mem → Prop} (g : D → D) (js : List Nat) (hjs : ∀ k ∈ js, k ∈ vs) (hl : ds.length ≤ 1000000)
    (h : ∀ d ∈ ds, ∀ Y, BX X scope Y → GJ Y tg js d (wipeD st vs) M (fun st2 M2 => M2 = M ∧ ∀ Y, BX X scope Y → EJ Y elt st2 M (fun d' M4 => d' = g d ∧ M4 = M) noE)) (q : Q (ds.map g) M) : LcJ X elt tg [] scope vs st ds M Q := by
  refine ⟨hl, fun i acc M' => acc = (ds.take i).map g ∧ M' = M, ⟨rfl, rfl⟩, fun i d acc M' hd ⟨ea, em⟩ => ⟨js, hjs, fun Y hY => ?_⟩, fun acc M' _ ⟨ea, em⟩ => ?_⟩
  · subst em
    have hm : d ∈ ds := List.mem_of_getElem? hd
    refine (h d hm Y hY).mono fun st2 M2 ⟨e2, k⟩ Y hY => ?_
    subst e2
    unfold FJ
    dsimp only
    rw [if_pos rfl]
    intro Y hY
    refine (k Y hY).mono fun d' M4 ⟨e3, e4⟩ => ⟨?_, e4⟩
    rw [ea, e3, List.take_add_one, hd]
    simp
  · subst em
    rw [List.take_length] at ea
    rw [ea]
    exact q
/-- .. with a test -/
theorem lcj_filter {vs : List Nat} {ds : List D} {Q : List D → Mem → Prop} {c : Expr} (t : D → Bool) (g : D → D) (js : List Nat) (hjs : ∀ k ∈ js, k ∈ vs) (hl : ds.length ≤ 1000000)
    (h : ∀ d ∈ ds, ∀ Y, BX X scope Y → GJ Y tg js d (wipeD st vs) M (fun st2 M2 => M2 = M ∧ ∀ Y, BX X scope Y → TJ Y c st2 M (fun b M3 => b = t d ∧ M3 = M ∧ (b = true → ∀ Y, BX X scope Y → EJ Y elt st2 M (fun d' M4 => d' = g d ∧ M4 = M) noE)) noE))
    (q : Q ((ds.filter t).map g) M) : LcJ X elt tg [c] scope vs st ds M Q := by
  refine ⟨hl, fun i acc M' => acc = ((ds.take i).filter t).map g ∧ M' = M, ⟨rfl, rfl⟩, fun i d acc M' hd ⟨ea, em⟩ => ⟨js, hjs, fun Y hY => ?_⟩, fun acc M' _ ⟨ea, em⟩ => ?_⟩
  · subst em
    have hm : d ∈ ds := List.mem_of_getElem? hd
    refine (h d hm Y hY).mono fun st2 M2 ⟨e2, k⟩ Y hY => ?_
    subst e2
    refine (k Y hY).mono fun b M3 ⟨eb, e3, kk⟩ => ?_
    subst e3
    have ht : (ds.take (i + 1)).filter t = (ds.take i).filter t ++ (if t d = true then [d] else []) := by
      rw [List.take_add_one, hd, List.filter_append]
      simp [List.filter_cons]
    cases b with
    | true =>
      rw [if_pos rfl]
      intro Y hY
      refine (kk rfl Y hY).mono fun d' M4 ⟨e3, e4⟩ => ⟨?_, e4⟩
      rw [ea, e3, ht, if_pos eb.symm]
      simp
    | false =>
      rw [if_neg (by decide)]
      refine ⟨?_, rfl⟩
      rw [ea, ht, if_neg (by rw [← eb]; simp)]
      simp
  · subst em
    rw [List.take_length] at ea
    rw [ea]
    exact q
end
end SL

set_option maxHeartbeats 2000000
/-! Further operations; instances: made, read, written, their methods called. -/
namespace SL
open PySem PySem.Spec PyProof.Rows L2 Evl

/-! ### fields -/
def putD (f : Str) (d : D) : List (Str × D) → List (Str × D)
  | [] => [(f, d)]
  | (g, x) :: r => if g = f then (g, d) :: r else (g, x) :: putD f d r
theorem put_rel {K : PySem.W.Frag} {F : Hp} {f : Str} {v : V} {d : D} (r : R K F v d) : ∀ {gs : List (Str × V)} {fs : List (Str × D)}, gs.map (·.1) = fs.map (·.1) → RA K F (gs.map (·.2)) (fs.map (·.2)) →
    (putF f v gs).map (·.1) = (putD f d fs).map (·.1) ∧ RA K F ((putF f v gs).map (·.2)) ((putD f d fs).map (·.2))
  | [], [], _, _ => ⟨rfl, RA.cons r RA.nil⟩
  | [], _ :: _, h, _ => by cases h
  | _ :: _, [], h, _ => by cases h
  | (g, x) :: gs, (g', y) :: fs, h, ra => by
    simp only [List.map_cons, List.cons.injEq] at h
    obtain ⟨rfl, h⟩ := h
    obtain ⟨x', xs, e, r1, r2⟩ := RA.uncons (xs := ((g, x) :: gs).map (·.2)) (d := y) (ds := fs.map (·.2)) ra
    simp only [List.map_cons, List.cons.injEq] at e
    obtain ⟨rfl, rfl⟩ := e
    unfold putF putD
    by_cases hg : g = f
    · rw [if_pos hg, if_pos hg]
      exact ⟨by simp [h], RA.cons r r2⟩
    · rw [if_neg hg, if_neg hg]
      obtain ⟨a, b⟩ := put_rel r h r2
      exact ⟨by simp [a], RA.cons r1 b⟩
theorem look_rel {K : PySem.W.Frag} {F : Hp} {f : Str} {d : D} : ∀ {gs : List (Str × V)} {fs : List (Str × D)}, gs.map (·.1) = fs.map (·.1) → RA K F (gs.map (·.2)) (fs.map (·.2)) → fs.lookup f = some d → ∃ v, gs.lookup f = some v ∧ R K F v d
  | [], [], _, _, h => by cases h
  | [], _ :: _, h, _, _ => by cases h
  | _ :: _, [], h, _, _ => by cases h
  | (g, x) :: gs, (g', y) :: fs, h, ra, hl => by
    simp only [List.map_cons, List.cons.injEq] at h
    obtain ⟨rfl, h⟩ := h
    obtain ⟨x', xs, e, r1, r2⟩ := RA.uncons (xs := ((g, x) :: gs).map (·.2)) (d := y) (ds := fs.map (·.2)) ra
    simp only [List.map_cons, List.cons.injEq] at e
    obtain ⟨rfl, rfl⟩ := e
    rw [List.lookup_cons] at hl ⊢
    cases hb : f == g with
    | true =>
      rw [hb] at hl
      cases hl
      exact ⟨x, rfl, r1⟩
    | false =>
      rw [hb] at hl
      exact look_rel h r2 hl
theorem look_none : ∀ {gs : List (Str × V)} {fs : List (Str × D)} {f : Str}, gs.map (·.1) = fs.map (·.1) → fs.lookup f = none → gs.lookup f = none
  | [], _, _, _, _ => rfl
  | _ :: _, [], _, h, _ => by cases h
  | (g, x) :: gs, (g', y) :: fs, f, h, hl => by
    simp only [List.map_cons, List.cons.injEq] at h
    obtain ⟨rfl, h⟩ := h
    rw [List.lookup_cons] at hl ⊢
    cases hb : f == g with
    | true => rw [hb] at hl; cases hl
    | false =>
      rw [hb] at hl
      exact look_none h hl
theorem ra_pair {K : PySem.W.Frag} {F : Hp} {xs : List (Str × V)} {ds : List (Str × D)} (n : xs.map (·.1) = ds.map (·.1)) (g : ∀ (i : Nat) (v : Str × V) (d : Str × D), xs[i]? = some v → ds[i]? = some d → R K F v.2 d.2) : RA K F (xs.map (·.2)) (ds.map (·.2)) := by
  refine ⟨by have := congrArg List.length n; simpa using this, fun i v d h1 h2 => ?_⟩
  rw [List.getElem?_map] at h1 h2
  cases hx : xs[i]? with
  | none => rw [hx] at h1; cases h1
  | some p =>
    cases hd : ds[i]? with
    | none => rw [hd] at h2; cases h2
    | some q =>
      rw [hx] at h1; rw [hd] at h2
      cases h1; cases h2
      exact g i p q hx hd
theorem pair_ra {K : PySem.W.Frag} {F : Hp} {xs : List (Str × V)} {ds : List (Str × D)} (r : RA K F (xs.map (·.2)) (ds.map (·.2))) (i : Nat) (v : Str × V) (d : Str × D) (h1 : xs[i]? = some v) (h2 : ds[i]? = some d) : R K F v.2 d.2 :=
  r.2 i v.2 d.2 (by rw [List.getElem?_map, h1]; rfl) (by rw [List.getElem?_map, h2]; rfl)
/-- an owned instance is frozen -/
theorem RelM.freezeI {K : PySem.W.Frag} {F H : Hp} {M : Mem} {i : Nat} {a C : Addr} {fs : List (Str × D)} (h : RelM K M F H) (hi : M[i]? = some (a, .ins C fs)) :
    ∃ F', Ex F F' ∧ R K F' (.ref a) (.ins C fs) ∧ RelM K (M.eraseIdx i) F' H := by
  have hm : (a, MO.ins C fs) ∈ M := List.mem_of_getElem? hi
  obtain ⟨f0, dx, gs, e, e2, n, k, r⟩ := h.own _ hm
  have hne0 : dx ≠ a := fun z => by rw [z, e] at e2; cases e2
  have ex1 : Ex F (upd F a (.ins C dx gs)) := Ex.new f0
  have ex2 : Ex (upd F a (.ins C dx gs)) (upd (upd F a (.ins C dx gs)) dx (.own a)) := Ex.new (by rw [upd_ne hne0]; exact n)
  have ex := ex1.trans ex2
  have hF' : ∀ b, b ≠ a → b ≠ dx → upd (upd F a (.ins C dx gs)) dx (.own a) b = F b := fun b h1 h2 => by rw [upd_ne h2, upd_ne h1]
  refine ⟨_, ex, .ins (by rw [upd_ne (Ne.symm hne0)]; exact upd_same) k (fun i v d h1 h2 => pair_ra (r.mono ex) i v d h1 h2), ?_, h.nd.sublist ((List.eraseIdx_sublist M i).map _), fun p hp => ?_⟩
  · intro b u hb
    by_cases q : b = dx
    · subst q; rw [upd_same] at hb; cases hb; exact e2
    · rw [upd_ne q] at hb
      by_cases q2 : b = a
      · subst q2; rw [upd_same] at hb; cases hb; exact e
      · rw [upd_ne q2] at hb; exact h.ex b u hb
  obtain ⟨h1, h2⟩ := h.own p ((List.eraseIdx_sublist M i).subset hp)
  have hne : p.1 ≠ a := by
    intro z
    obtain ⟨j, hj⟩ := List.mem_iff_getElem?.mp hp
    rw [List.getElem?_eraseIdx] at hj
    have a1 : (M.map (·.1))[i]? = some a := by rw [List.getElem?_map, hi]; rfl
    split at hj
    · have a2 : (M.map (·.1))[j]? = some a := by rw [List.getElem?_map, hj, ← z]; rfl
      have := nd_ix h.nd a1 a2
      omega
    · have a2 : (M.map (·.1))[j + 1]? = some a := by rw [List.getElem?_map, hj, ← z]; rfl
      have := nd_ix h.nd a1 a2
      omega
  have hnd : p.1 ≠ dx := fun z => h2.notOwn a (by rw [z]; exact e2)
  refine ⟨by rw [hF' _ hne hnd]; exact h1, ?_⟩
  obtain ⟨p1, p2⟩ := p
  cases p2 with
  | lst ds => obtain ⟨vs, e3, r3⟩ := h2; exact ⟨vs, e3, r3.mono ex⟩
  | dct kvs => obtain ⟨vs, e3, k3, r3⟩ := h2; exact ⟨vs, e3, k3, r3.mono ex⟩
  | ins C' fs' =>
    obtain ⟨dx2, gs2, e3, e4, n3, k3, r3⟩ := h2
    refine ⟨dx2, gs2, e3, e4, ?_, k3, r3.mono ex⟩
    rw [hF']
    · exact n3
    · intro z; rw [z, e] at e4; cases e4
    · intro z
      rw [z, e2] at e4
      cases e4
      exact hne rfl

section
variable {X : Cx} {e a b c : Expr} {es : List Expr} {st : Sls} {M Mx : Mem} {E : EK} {Q : DK} {F F' H H' : Hp} {σ : L2.St} {Wx : WX} {P : Post} {x : Str} {pos p : Pos} {mg : Str → Option Value} {id : String} {d : D} {xs ys : List D} {i j : Int}
/-! ### numbers -/
theorem od_mulC (hc : CMul i j) (h : Q (.int (i * j)) M) : OpD X (binaryOp .Mult) (.int i) (.int j) M Q := fun Mx F H v1 v2 QV p r1 r2 k => by
  cases r1; cases r2; exact rOp.of op_mul ⟨i, j, rfl, rfl, hc, k _ _ (pst_same p.m (.int _) h)⟩
theorem od_modV (hc : 0 < j) (h : ∀ r, 0 ≤ r → r < j → Q (.int r) M) : OpD X (binaryOp .Mod) (.int i) (.int j) M Q := od_mod hc (h _ (Int.emod_nonneg _ (by omega)) (Int.emod_lt_of_pos _ hc))
theorem divOk_le (h0 : 0 < j) (h : j ≤ 10 ^ 2000) : DivOk i j := by
  refine ⟨h0, PyProof.noPylong_of_log2 ?_⟩
  have h2 : j.natAbs < 2 ^ 9000 := by
    have h3 : (10 : Int) ^ 2000 < 2 ^ 9000 := by decide +kernel
    omega
  rcases Nat.eq_zero_or_pos j.natAbs with z | z
  · omega
  · exact (Nat.log2_lt (by omega)).mpr h2
theorem od_p9 (h : Q (.int 1000000000) M) : OpD X (binaryOp .Pow) (.int 10) (.int 9) M Q := od_pow ⟨by decide, by decide, by decide⟩ h
theorem od_p12 (h : Q (.int 1000000000000) M) : OpD X (binaryOp .Pow) (.int 10) (.int 12) M Q := od_pow ⟨by decide, by decide, by decide⟩ h
theorem od_p18 (h : Q (.int 1000000000000000000) M) : OpD X (binaryOp .Pow) (.int 10) (.int 18) M Q := od_pow ⟨by decide, by decide, by decide⟩ h
theorem od_p20 (h : Q (.int 100000000000000000000) M) : OpD X (binaryOp .Pow) (.int 10) (.int 20) M Q := od_pow ⟨by decide, by decide, by decide⟩ h
theorem id_mem {ds : List D} (hs : d = .lst ds ∨ d = .fz ds ∨ d = .tup ds) (h0 : 0 ≤ i) (hi : i < ds.length) (q : ∀ e, ds[i.toNat]? = some e → Q e M) : IxD X d (.int i) M Q := by
  have hn : i.toNat < ds.length := by omega
  have he : ds[i.toNat]? = some ds[i.toNat] := by simp [hn]
  have ha : atI ds i = some ds[i.toNat] := by
    have := atI_nat he
    rwa [show ((i.toNat : Nat) : Int) = i by omega] at this
  rcases hs with rfl | rfl | rfl
  · exact id_lst ha (q _ he)
  · exact id_fz ha (q _ he)
  · exact id_tup ha (q _ he)
theorem ra_strs {K : PySem.W.Frag} {F : Hp} : ∀ {ns : List Str} {vs : List V}, RA K F vs (ns.map D.str) → vs = ns.map V.str
  | [], vs, r => r.nil_of
  | n :: ns, vs, r => by
    obtain ⟨v, ws, rfl, r1, r2⟩ := RA.uncons (d := D.str n) (ds := ns.map D.str) r
    cases r1
    rw [ra_strs r2]; rfl
theorem inV_strs (z : Str) : ∀ ys : List Str, inV (.str z) (ys.map V.str) = decide (z ∈ ys)
  | [] => rfl
  | y :: ys => by
    have ih := inV_strs z ys
    unfold inV at ih ⊢
    rw [List.map_cons, List.any_cons, ih]
    by_cases hz : z = y
    · subst hz; simp [eqV]
    · have : ¬ (y = z) := fun q => hz q.symm
      simp [eqV, hz, this]
theorem od_inS {z : Str} {ys : List Str} (q : Q (.bl (decide (z ∈ ys))) M) : OpD X (compareOp .In) (.str z) (.tup (ys.map .str)) M Q := fun Mx F H v1 v2 QV p r1 r2 k => by
  cases r1
  obtain ⟨a, vs, rfl, h1, a1⟩ := r2.tuple p.m.ex
  have e := ra_strs a1
  subst e
  refine rOp.of op_in_seq ⟨a, _, rfl, .inr h1, rfl, by simp [flatV], k _ _ (pst_same p.m (.bl _) ?_)⟩
  rw [if_neg (by decide), inV_strs]
  exact q
/-- what is owned stands in another order -/
theorem sj_perm {ss : List Stmt} {N : Mem} (hp : M.Perm N) (h : SJ X ss st N P) : SJ X ss st M P := fun Mx F σ H Wx p hh => h Mx F σ H Wx ⟨p.sl, p.m.perm (hp.append_right Mx), p.tk, p.wi, p.un⟩ hh
/-- a slot is forgotten; what stands there is not known further -/
theorem sj_sub {ss : List Stmt} {N : Mem} (hp : N.Sublist M) (h : SJ X ss st N P) : SJ X ss st M P := fun Mx F σ H Wx p hh => h Mx F σ H Wx ⟨p.sl, relSub p.m hp, p.tk, p.wi, p.un⟩ hh

section
variable {N : List Str} {sc : Scope} {fn : Str → Bool} {jj : Nat} {Pr : Program} {w : World} {K : PySem.W.Frag} {base : Heap} {d1 d2 d3 : D} {x y z : Str} {p1 p2 p3 : Pos} {kk : Nat} {Qs : Sls → Mem → Prop}
theorem gj_tp2 {i1 i2 : Nat} (h0 : Nm i1 x) (h1 : Nm i2 y) (cf : Cf X Pr w K mg base N sc fn jj) (hi : N[i1]? = some x) (hj : N[i2]? = some y) (hx : locB sc x = true) (hy : locB sc y = true) (hf : (fn x || sc.names.lookup x == some .local) = true) (hg : (fn y || sc.names.lookup y == some .local) = true)
    (h : Qs ((st.set i1 (some d1)).set i2 (some d2)) M) : GJ X (.Tuple [.Name x p1, .Name y p2] kk pos) [i1, i2] (.tup [d1, d2]) st M Qs :=
  gj_tp cf (gsj_cons (gj_nm h0 cf hi hx hf (gsj_cons (gj_nm h1 cf hj hy hg (gsj_nil h)))))
theorem gj_tp3 {i1 i2 i3 : Nat} (h0 : Nm i1 x) (h1 : Nm i2 y) (h2 : Nm i3 z) (cf : Cf X Pr w K mg base N sc fn jj) (hi : N[i1]? = some x) (hj : N[i2]? = some y) (hk : N[i3]? = some z) (hx : locB sc x = true) (hy : locB sc y = true) (hz : locB sc z = true) (hf : (fn x || sc.names.lookup x == some .local) = true) (hg : (fn y || sc.names.lookup y == some .local) = true) (hh : (fn z || sc.names.lookup z == some .local) = true)
    (h : Qs (((st.set i1 (some d1)).set i2 (some d2)).set i3 (some d3)) M) : GJ X (.Tuple [.Name x p1, .Name y p2, .Name z p3] kk pos) [i1, i2, i3] (.tup [d1, d2, d3]) st M Qs :=
  gj_tp cf (gsj_cons (gj_nm h0 cf hi hx hf (gsj_cons (gj_nm h1 cf hj hy hg (gsj_cons (gj_nm h2 cf hk hz hh (gsj_nil h)))))))
end
/-! ### instances -/
theorem s1_fld {o : Expr} {f : Str} {p' : Pos} (h : EJ X e st M (fun d M1 => EJ X o st M1 (fun d1 M2 => ∃ (a : Addr) (n : Nat) (C : Addr) (fs : List (Str × D)), d1 = .raw (.ref a) ∧ M2[n]? = some (a, .ins C fs) ∧ Cls X.K C ∧ NoAttr X.K C f ∧ fs.length < 1000 ∧ P.nx st (M2.set n (a, .ins C (putD f d fs)))) P.er) P.er)
    (hs : swapsWith e (some (.Attribute o f p')) pos.line X.env = pure false := by rfl) : S1 X (.Assign [.Attribute o f p'] e pos) st M P := fun Mx F σ H Wx p _ => by
  refine WS.of (ps_fld pe_W pe_W hs) ?_
  refine h.bind p fun d M1 F1 v H1 q1 e1 r1 p1 => ?_
  refine q1.bind p1 fun d1 M2 F2 v1 H2 ⟨a, n, C, fs, ed, hn, hC, hno, hl, q2⟩ e2 r2 p2 => ?_
  subst ed
  cases r2
  obtain ⟨f0, dx, gs, ha, hdx, hFd, hk, ra⟩ := own_at p2.m hn
  obtain ⟨k1, k2⟩ := put_rel (f := f) (r1.mono e2) hk ra
  have hlen : gs.length = fs.length := by have := congrArg List.length hk; simpa using this
  have hne : dx ≠ a := fun z => by rw [z, ha] at hdx; cases hdx
  refine ⟨a, C, dx, gs, rfl, ha, hC, hno, by omega, sstOf q2 (e1.trans e2) p2.sl (rel_write p2.m hn (o' := .ins C (putD f d fs)) ⟨dx, putF f v gs, upd_same, ?_, hFd, k1, k2⟩)⟩
  rw [upd_ne hne]
  exact hdx
/-- o.f of an instance, frozen or owned -/
def FldD (d : D) (f : Str) (C : Addr) (d' : D) (M : Mem) : Prop := ∃ fs : List (Str × D), fs.lookup f = some d' ∧ (d = .ins C fs ∨ ∃ (a : Addr) (n : Nat), d = .raw (.ref a) ∧ M[n]? = some (a, .ins C fs))
theorem ins_read {K : PySem.W.Frag} {v : V} {C : Addr} {fs : List (Str × D)} (m : RelM K (M ++ Mx) F H) (r : R K F v d) (h : d = .ins C fs ∨ ∃ (a : Addr) (n : Nat), d = .raw (.ref a) ∧ M[n]? = some (a, .ins C fs)) :
    ∃ a dx gs, v = .ref a ∧ H a = some (.ins C dx gs) ∧ gs.map (·.1) = fs.map (·.1) ∧ RA K F (gs.map (·.2)) (fs.map (·.2)) := by
  rcases h with rfl | ⟨a, n, rfl, hn⟩
  · cases r with
    | @ins a C dx gs ds h1 h2 h3 => exact ⟨a, dx, gs, rfl, m.ex _ _ h1, h2, ra_pair h2 h3⟩
  · cases r
    obtain ⟨f0, dx, gs, ha, hdx, hFd, hk, ra⟩ := own_at m hn
    exact ⟨a, dx, gs, rfl, ha, hk, ra⟩
theorem ej_fld {o : Expr} {f : Str} (h : EJ X o st M (fun d M1 => ∃ C d', Cls X.K C ∧ NoAttr X.K C f ∧ FldD d f C d' M1 ∧ Q d' M1) E) (hb : attributeBase o f X.env (eval o X.env) = eval o X.env := by rfl) : EJ X (.Attribute o f pos) st M Q E := fun Mx F σ H Wx p => by
  refine W.of (pe_fld pe_W hb) ?_
  refine h.bind p fun d M1 F1 v H1 ⟨C, d', hC, hno, ⟨fs, hl, hd⟩, q⟩ e1 r1 p1 => ?_
  obtain ⟨a, dx, gs, rfl, ha, hk, ra⟩ := ins_read p1.m r1 hd
  obtain ⟨u, hu, ru⟩ := look_rel hk ra hl
  exact ⟨a, C, dx, gs, u, rfl, ha, hC, hno, hu, d', M1, F1, q, e1, ru, p1.m⟩
/-- the methods of a class -/
structure MtI (P : Program) (w : World) (K : PySem.W.Frag) (mg : Str → Option Value) (base : Heap) (k : Nat) (C : Addr) (m : Str) (ps : List Str) (c : Ct) : Prop where
  ex : ∃ f fd, Cls K C ∧ Meth K C m f ∧ FnOk P w K mg base (L2.CX P w) k f fd ps (spOf K ps.length c) ∧ Binds K fd ps []
def InsAt (d : D) (C : Addr) (m : Str) (M : Mem) : Prop := ∃ fs : List (Str × D), fs.lookup m = none ∧ (d = .ins C fs ∨ ∃ (a : Addr) (n : Nat), d = .raw (.ref a) ∧ M[n]? = some (a, .ins C fs))
theorem run_mS {k : Nat} {f : Addr} {fd : FuncData} {ps : List Str} {ct : Ct} {ds : List D} {us : List Value} {vs : List V} {pins : List (Addr × Obj)} {s : Shared} (Fn : FnOk X.prog X.w X.K X.mg X.base (L2.CX X.prog X.w) k f fd ps (spOf X.K ps.length ct)) (hb : Binds X.K fd ps []) (hr : Room k X.A)
    (q : CtJ ct ps.length ds st M Q E) (p : Pre X st M Mx F σ H E Wx) (r : RA X.K F vs ds) (rv : Vals vs us) (I : Inv X pins σ H s) : wpAny (model X.prog X.w) X.A (call (.ref f) us) (EP X pins σ (Pst X.K Mx F Q)) X.xe s :=
  run_fnS (E := WE Wx) Fn hr hb (passAt p.tk σ) I rv (ct_sp q p r fun v H' z => z)
theorem ej_mth {o : Expr} {m : Str} {apos : Pos} {pl : Sem Bool} {k : Nat} {C : Addr} {ps : List Str} {ct : Ct} (MI : MtI X.prog X.w X.K X.mg X.base k C m ps ct) (hr : Room k X.A)
    (h : EJ X o st M (fun d M1 => InsAt d C m M1 ∧ AJ X (e :: es) st M1 (fun ds M2 => CtJ ct ps.length (d :: ds) st M2 Q E) E) E)
    (hst : starEach (e :: es) X.env = (false, eval e X.env) :: starEach es X.env := by rfl) (hpl : (backTo pos (starEach es X.env)).any (·.1) = false := by rfl)
    (ht : eval (.Call (.Attribute o m apos) (e :: es) [] pos) X.env = (do
      let ov ← eval o X.env
      standAt apos.atName
      let (f, first) ← holding [ov] (getMethod ov m pl)
      callWith pos f first (backTo pos (starEach (e :: es) X.env)) (backToKw pos (keywordEach [] X.env))) := by rfl) :
    EJ X (.Call (.Attribute o m apos) (e :: es) [] pos) st M Q E := fun Mx F σ H Wx p pins s I => by
  obtain ⟨f, fd, c, hm, Fn, hb⟩ := MI.ex
  refine PySem.W.methodCall_KW (pl := pl) (thn (h.bind p (QV := fun v H1 => ∃ d M1 F1, (InsAt d C m M1 ∧ AJ X (e :: es) st M1 (fun ds M2 => CtJ ct ps.length (d :: ds) st M2 Q E) E) ∧ Ex F F1 ∧ R X.K F1 v d ∧ Pre X st M1 Mx F1 σ H1 E Wx) (fun d M1 F1 v H1 q e1 r1 p1 => ⟨d, M1, F1, q, e1, r1, p1⟩) pins s I) fun u s1 ⟨v, H1, I1, rv, d, M1, F1, ⟨⟨fs, hl, hd⟩, q⟩, e1, r1, p1⟩ => ?_) ht
  obtain ⟨a, dx, gs, rfl, ha, hk, ra⟩ := ins_read p1.m r1 hd
  obtain rfl : u = Value.ref a := rv
  refine getmeth_ok I1 ha c hm (look_none hk hl) ?_
  refine PySem.W.callWith_K (first := [.ref a]) (h₀ := X.base) I.ok.mod.kin hm.kp (thn (AJ.bind q p1 (QV := fun vs H2 => ∃ ds M2 F2, CtJ ct ps.length (d :: ds) st M2 Q E ∧ Ex F1 F2 ∧ RA X.K F2 vs ds ∧ Pre X st M2 Mx F2 σ H2 E Wx) (fun ds M2 F2 vs H2 q2 e2 r2 p2 => ⟨ds, M2, F2, q2, e2, r2, p2⟩) pos pins s1 I1) fun us s2 ⟨vs, H2, I2, r, ds, M2, F2, q2, e2, r2, p2⟩ => ⟨I2.kIn, ?_⟩) hst hpl
  exact thn (run_mS (us := .ref a :: us) (vs := .ref a :: vs) Fn hb hr q2 p2 (RA.cons (r1.mono e2) r2) (.cons rfl r) I2) fun u s3 ⟨v, H3, I3, r3, z⟩ => ⟨v, H3, I3, r3, z.mono (e1.trans e2)⟩
theorem ej_mth0 {o : Expr} {m : Str} {apos : Pos} {pl : Sem Bool} {k : Nat} {C : Addr} {ps : List Str} {ct : Ct} (MI : MtI X.prog X.w X.K X.mg X.base k C m ps ct) (hr : Room k X.A)
    (h : EJ X o st M (fun d M1 => InsAt d C m M1 ∧ CtJ ct ps.length [d] st M1 Q E) E)
    (ht : eval (.Call (.Attribute o m apos) [] [] pos) X.env = (do
      let ov ← eval o X.env
      standAt apos.atName
      let (f, first) ← holding [ov] (getMethod ov m pl)
      callWith pos f first (backTo pos (starEach [] X.env)) (backToKw pos (keywordEach [] X.env))) := by rfl) :
    EJ X (.Call (.Attribute o m apos) [] [] pos) st M Q E := fun Mx F σ H Wx p pins s I => by
  obtain ⟨f, fd, c, hm, Fn, hb⟩ := MI.ex
  refine PySem.W.methodCall_KW (pl := pl) (thn (h.bind p (QV := fun v H1 => ∃ d M1 F1, (InsAt d C m M1 ∧ CtJ ct ps.length [d] st M1 Q E) ∧ Ex F F1 ∧ R X.K F1 v d ∧ Pre X st M1 Mx F1 σ H1 E Wx) (fun d M1 F1 v H1 q e1 r1 p1 => ⟨d, M1, F1, q, e1, r1, p1⟩) pins s I) fun u s1 ⟨v, H1, I1, rv, d, M1, F1, ⟨⟨fs, hl, hd⟩, q⟩, e1, r1, p1⟩ => ?_) ht
  obtain ⟨a, dx, gs, rfl, ha, hk, ra⟩ := ins_read p1.m r1 hd
  obtain rfl : u = Value.ref a := rv
  refine getmeth_ok I1 ha c hm (look_none hk hl) ?_
  refine PySem.W.callWith_K0 (first := [.ref a]) I1.kIn hm.kp ?_
  exact thn (run_mS (us := [.ref a]) (vs := [.ref a]) Fn hb hr q p1 (RA.cons r1 RA.nil) (.cons rfl .nil) I1) fun u s3 ⟨v, H3, I3, r3, z⟩ => ⟨v, H3, I3, r3, z.mono e1⟩
/-- C(e, ..): c is __init__'s contract; the instance is given back frozen -/
structure MkI (P : Program) (w : World) (K : PySem.W.Frag) (mg : Str → Option Value) (base : Heap) (k : Nat) (x : Str) (C : Addr) (ps : List Str) (c : Ct) : Prop where
  ex : ∃ f fd, mg x = some (.ref C) ∧ Mk K C f ∧ FnOk P w K mg base (L2.CX P w) k f fd ps (spOf K ps.length c) ∧ Binds K fd ps []
theorem ej_make {k : Nat} {C : Addr} {ps : List Str} {ct : Ct} (MI : MkI X.prog X.w X.K X.mg X.base k x C ps ct) (hr : Room (k + 1) X.A) (hg : Gl X x)
    (h : AJ X (e :: es) st M (fun ds M1 => ∀ a, CtJ ct ps.length (.raw (.ref a) :: ds) st ((a, .ins C []) :: M1) (fun d M2 => d = .non ∧ ∃ n fs, M2[n]? = some (a, .ins C fs) ∧ Q (.ins C fs) (M2.eraseIdx n)) E) E)
    (hdb : (x == ("__debug__" : Str)) = false := by decide) (he : starEach (e :: es) X.env = (false, eval e X.env) :: starEach es X.env := by rfl) (hpl : (backTo pos (starEach es X.env)).any (·.1) = false := by rfl) :
    EJ X (.Call (.Name x p) (e :: es) [] pos) st M Q E := fun Mx F σ H Wx pp pins s I => by
  obtain ⟨f, fd, hmg, Mk', Fn, hb⟩ := MI.ex
  refine wpAny_Call_Name_kw (ld_glob I hg hmg ?_ hdb)
  refine PySem.W.callWith_K (h₀ := X.base) I.ok.mod.kin Mk'.kp (thn (AJ.bind h pp (QV := fun vs H2 => ∃ ds M2 F2, (∀ a, CtJ ct ps.length (.raw (.ref a) :: ds) st ((a, .ins C []) :: M2) (fun d M3 => d = .non ∧ ∃ n fs, M3[n]? = some (a, .ins C fs) ∧ Q (.ins C fs) (M3.eraseIdx n)) E) ∧ Ex F F2 ∧ RA X.K F2 vs ds ∧ Pre X st M2 Mx F2 σ H2 E Wx) (fun ds M2 F2 vs H2 q2 e2 r2 p2 => ⟨ds, M2, F2, q2, e2, r2, p2⟩) pos pins s I) fun us s1 ⟨vs, H1, I1, r, ds, M2, F2, q2, e2, r2, p2⟩ => ⟨I1.kIn, ?_⟩) he hpl
  have hn1 := I1.hok.fresh (Nat.le_succ s1.heap.objs.size)
  have hn2 := I1.hok.fresh (Nat.le_refl s1.heap.objs.size)
  have hne : s1.heap.objs.size ≠ s1.heap.objs.size + 1 := Nat.ne_of_lt (Nat.lt_succ_self _)
  have I2 := Inv.made (C := C) I1
  have m1 := p2.m.newU (u := .own (s1.heap.objs.size + 1)) hn2
  have hfresh : upd H1 s1.heap.objs.size (.own (s1.heap.objs.size + 1)) (s1.heap.objs.size + 1) = none := by rw [upd_ne (Ne.symm hne)]; exact hn1
  have m2 : RelM X.K ((((s1.heap.objs.size + 1, MO.ins C []) :: M2)) ++ Mx) F2 (upd (upd H1 s1.heap.objs.size (.own (s1.heap.objs.size + 1))) (s1.heap.objs.size + 1) (.ins C s1.heap.objs.size [])) :=
    m1.newO hfresh ⟨s1.heap.objs.size, [], upd_same, by rw [upd_ne hne]; exact upd_same, exBack p2.m.ex hn2, rfl, RA.nil⟩
  have p3 : Pre X st ((s1.heap.objs.size + 1, .ins C []) :: M2) Mx F2 σ _ E Wx := ⟨p2.sl, m2, p2.tk, p2.wi, p2.un⟩
  have hq := ct_sp (q2 (s1.heap.objs.size + 1)) p3 (RA.cons (.raw _) r2) (fun v H' z => z)
  have hl := Fn.len _ _ _ _ hq
  have r3 : Vals (V.ref (s1.heap.objs.size + 1) :: vs) (Value.ref (s1.heap.objs.size + 1) :: us) := .cons rfl r
  have hl2 : (Value.ref (s1.heap.objs.size + 1) :: us ++ []).length = ps.length := by rw [List.append_nil, ← r3.length]; exact hl
  have hb' := hb _ (Value.ref (s1.heap.objs.size + 1) :: us) I2.kIn hl2
  rw [List.append_nil] at hb'
  refine wpAny_call (make_map (f := f) I1.kIn Mk'.makes Mk'.init (beq_iff_eq.mp Mk'.fn) (codeAny_mono (Fn.run _ X.stack _ _ ⟨Value.ref (s1.heap.objs.size + 1) :: us, []⟩ (Value.ref (s1.heap.objs.size + 1) :: us) _ _ (WE Wx σ) (hr.make C us [])
    (I2.env0.make C us []) hb' r3 hq) fun r' s' hq' => ?_))
  cases r' with
  | error er => exact passAt p2.tk σ pins _ _ er s' I2 hq'
  | ok fl =>
    cases fl with
    | ret u =>
      obtain ⟨v, H', I3, rv, d, M3, F3, ⟨ed, n, fs, hn, q3⟩, e3, r4, m4⟩ := I2.after hq'
      subst ed
      cases r4
      obtain ⟨F4, e4, r5, m5⟩ := m4.freezeI (get_app (Mx := Mx) hn)
      rw [List.eraseIdx_append_of_lt_length (List.getElem?_eq_some_iff.mp hn).1] at m5
      exact ⟨rv, ⟨V.ref (s1.heap.objs.size + 1), H', I3, rfl, .ins C fs, _, F4, q3, (e2.trans e3).trans e4, r5, m5⟩⟩
    | next => exact False.elim hq'
    | brk => exact False.elim hq'
    | cont => exact False.elim hq'
/-! dressed -/
section
variable {N : List Str} {sc : Scope} {fn : Str → Bool} {jj : Nat} {Pr : Program} {w : World} {K : PySem.W.Frag} {base : Heap} {C : Addr} {f : Str} {o : Expr} {apos : Pos}
theorem ej_fl (hC : Cls K C) (hno : NoAttr K C f) (cf : Cf X Pr w K mg base N sc fn jj) (h : EJ X o st M (fun d M1 => ∃ d', FldD d f C d' M1 ∧ Q d' M1) E) (hb : attributeBase o f X.env (eval o X.env) = eval o X.env := by rfl) : EJ X (.Attribute o f pos) st M Q E :=
  ej_fld (h.mono fun d M1 ⟨d', h1, h2⟩ => ⟨C, d', by rw [cf.k]; exact hC, by rw [cf.k]; exact hno, h1, h2⟩) hb
theorem s1_fl {p' : Pos} (hC : Cls K C) (hno : NoAttr K C f) (cf : Cf X Pr w K mg base N sc fn jj) (h : EJ X e st M (fun d M1 => EJ X o st M1 (fun d1 M2 => ∃ (a : Addr) (n : Nat) (fs : List (Str × D)), d1 = .raw (.ref a) ∧ M2[n]? = some (a, .ins C fs) ∧ fs.length < 1000 ∧ P.nx st (M2.set n (a, .ins C (putD f d fs)))) P.er) P.er)
    (hs : swapsWith e (some (.Attribute o f p')) pos.line X.env = pure false := by rfl) : S1 X (.Assign [.Attribute o f p'] e pos) st M P :=
  s1_fld (h.mono fun d M1 h1 => h1.mono fun d1 M2 ⟨a, n, fs, e1, e2, e3, q⟩ => ⟨a, n, C, fs, e1, e2, by rw [cf.k]; exact hC, by rw [cf.k]; exact hno, e3, q⟩) hs
theorem ej_mt {m : Str} {pl : Sem Bool} {k : Nat} {ps : List Str} {ct : Ct} (MI : MtI Pr w K mg base k C m ps ct) (cf : Cf X Pr w K mg base N sc fn jj) (hk : Nat.ble k jj = true)
    (h : EJ X o st M (fun d M1 => InsAt d C m M1 ∧ AJ X (e :: es) st M1 (fun ds M2 => CtJ ct ps.length (d :: ds) st M2 Q E) E) E)
    (hst : starEach (e :: es) X.env = (false, eval e X.env) :: starEach es X.env := by rfl) (hpl : (backTo pos (starEach es X.env)).any (·.1) = false := by rfl)
    (ht : eval (.Call (.Attribute o m apos) (e :: es) [] pos) X.env = (do
      let ov ← eval o X.env
      standAt apos.atName
      let (f, first) ← holding [ov] (getMethod ov m pl)
      callWith pos f first (backTo pos (starEach (e :: es) X.env)) (backToKw pos (keywordEach [] X.env))) := by rfl) :
    EJ X (.Call (.Attribute o m apos) (e :: es) [] pos) st M Q E := by
  obtain ⟨rfl, rfl, rfl, rfl, rfl, _, _, _, hr, _, _⟩ := cf
  exact ej_mth MI (hr.mono (Nat.le_of_ble_eq_true hk)) h hst hpl ht
theorem ej_mt0 {m : Str} {pl : Sem Bool} {k : Nat} {ps : List Str} {ct : Ct} (MI : MtI Pr w K mg base k C m ps ct) (cf : Cf X Pr w K mg base N sc fn jj) (hk : Nat.ble k jj = true) (h : EJ X o st M (fun d M1 => InsAt d C m M1 ∧ CtJ ct ps.length [d] st M1 Q E) E)
    (ht : eval (.Call (.Attribute o m apos) [] [] pos) X.env = (do
      let ov ← eval o X.env
      standAt apos.atName
      let (f, first) ← holding [ov] (getMethod ov m pl)
      callWith pos f first (backTo pos (starEach [] X.env)) (backToKw pos (keywordEach [] X.env))) := by rfl) :
    EJ X (.Call (.Attribute o m apos) [] [] pos) st M Q E := by
  obtain ⟨rfl, rfl, rfl, rfl, rfl, _, _, _, hr, _, _⟩ := cf
  exact ej_mth0 MI (hr.mono (Nat.le_of_ble_eq_true hk)) h ht
theorem ej_mk {k : Nat} {ps : List Str} {ct : Ct} (MI : MkI Pr w K mg base k x C ps ct) (cf : Cf X Pr w K mg base N sc fn jj) (hk : Nat.ble (k + 1) jj = true) (hg : sc.names.lookup x = some .globalImplicit) (hp : plainN x = true)
    (h : AJ X (e :: es) st M (fun ds M1 => ∀ a, CtJ ct ps.length (.raw (.ref a) :: ds) st ((a, .ins C []) :: M1) (fun d M2 => d = .non ∧ ∃ n fs, M2[n]? = some (a, .ins C fs) ∧ Q (.ins C fs) (M2.eraseIdx n)) E) E)
    (he : starEach (e :: es) X.env = (false, eval e X.env) :: starEach es X.env := by rfl) (hpl : (backTo pos (starEach es X.env)).any (·.1) = false := by rfl) : EJ X (.Call (.Name x p) (e :: es) [] pos) st M Q E := by
  have hg' := gl_of cf hg
  obtain ⟨rfl, rfl, rfl, rfl, rfl, _, _, _, hr, _, _⟩ := cf
  exact ej_make MI (hr.mono (Nat.le_of_ble_eq_true hk)) hg' h (plainN_1 hp) he hpl
end
end
end SL

set_option maxHeartbeats 2000000
/-! Owned lists lent to a callee as if frozen; thawed behind it. -/
namespace SL
open PySem PySem.Spec PyProof.Rows L2 Evl

/-! no list, dict, instance inside -/
mutual
def D.noL : D → Bool
  | .lst _ => false
  | .fz _ => false
  | .dct _ => false
  | .ins _ _ => false
  | .tup ds => D.noLs ds
  | _ => true
def D.noLs : List D → Bool
  | [] => true
  | d :: ds => D.noL d && D.noLs ds
end
theorem noLs_get : ∀ {ds : List D} {i : Nat} {d : D}, D.noLs ds = true → ds[i]? = some d → d.noL = true
  | [], _, _, _, h => by simp at h
  | d :: ds, 0, e, h, hi => by
    simp only [D.noLs, Bool.and_eq_true] at h
    simp at hi
    rw [← hi]; exact h.1
  | d :: ds, i + 1, e, h, hi => by
    simp only [D.noLs, Bool.and_eq_true] at h
    exact noLs_get h.2 (by simpa using hi)
theorem noLs_ints (ns : List Int) : D.noLs (ns.map .int) = true := by
  induction ns with
  | nil => rfl
  | cons n ns ih => simp [D.noLs, D.noL, ih]
def MO.noL : MO → Bool
  | .lst ds => D.noLs ds
  | .dct kvs => D.noLs (kvs.map (·.2))
  | .ins _ fs => D.noLs (fs.map (·.2))
/-- F3 without H's own lists, dicts, instances -/
def thawF (F H F3 : Hp) : Hp := fun a => match H a with
  | none => F3 a
  | some (.tup xs) => some (.tup xs)
  | some (.frz o u) => some (.frz o u)
  | some _ => F a
section
variable {K : PySem.W.Frag} {F F3 H H' : Hp} {M M' : Mem}
theorem thaw_ex (ex : Ex F H) : Ex F (thawF F H F3) := fun a u h => by
  have hH := ex a u h
  unfold thawF
  rw [hH]
  cases u <;> first | rfl | exact h
theorem thaw_ex3 (ex : Ex F H) (e3 : Ex H F3) : Ex (thawF F H F3) F3 := fun a u h => by
  unfold thawF at h
  cases hH : H a with
  | none => rw [hH] at h; exact h
  | some w =>
    rw [hH] at h
    cases w <;> first | exact e3 a u (h ▸ hH) | exact e3 a u (ex a u h)
theorem thaw_old (hn : H a = none) : thawF F H F3 a = F3 a := by unfold thawF; rw [hn]
theorem R.thaw (e3 : Ex H F3) {v : V} {d : D} (r : R K F3 v d) (h : d.noL = true) : R K (thawF F H F3) v d := by
  induction r with
  | non => exact .non
  | bl b => exact .bl b
  | int i => exact .int i
  | str x => exact .str x
  | ty n => exact .ty n
  | raw v => exact .raw v
  | lst => cases h
  | fz => cases h
  | dct => cases h
  | ins => cases h
  | @tup a xs ds hq hn g ih =>
    refine .tup ?_ hn fun i v d h1 h2 => ih i v d h1 h2 (noLs_get (by simpa [D.noL] using h) h2)
    rcases hq with hq | hq
    · refine .inl ?_
      cases hH : H a with
      | none =>
        rcases hq with q | ⟨o, q⟩
        · exact .inl (by rw [thaw_old hH]; exact q)
        · exact .inr ⟨o, by rw [thaw_old hH]; exact q⟩
      | some w =>
        have hw := e3 a w hH
        rcases hq with q | ⟨o, q⟩
        · rw [hw] at q
          cases q
          exact .inl (by unfold thawF; rw [hH])
        · rw [hw] at q
          cases q
          exact .inr ⟨o, by unfold thawF; rw [hH]⟩
    · exact .inr hq
theorem RA.thaw (e3 : Ex H F3) {vs : List V} {ds : List D} (r : RA K F3 vs ds) (h : D.noLs ds = true) : RA K (thawF F H F3) vs ds := ⟨r.1, fun i v d h1 h2 => (r.2 i v d h1 h2).thaw e3 (noLs_get h h2)⟩
theorem thaw_own {a : Addr} {o : MO} (h : F a = none) (hm : MOk K F H a o) : thawF F H F3 a = none := by
  cases o with
  | lst ds => obtain ⟨vs, e, _⟩ := hm; unfold thawF; rw [e]; exact h
  | dct ds => obtain ⟨vs, e, _⟩ := hm; unfold thawF; rw [e]; exact h
  | ins C ds => obtain ⟨dx, vs, e, _⟩ := hm; unfold thawF; rw [e]; exact h
theorem thaw (m : RelM K M F H) (e3 : Ex H F3) (m' : RelM K M' F3 H') (hM : ∀ p ∈ M', p.2.noL = true) : RelM K (M' ++ M) (thawF F H F3) H' := by
  have e4 := thaw_ex3 m.ex e3
  have eH : Ex H H' := e3.trans m'.ex
  refine ⟨e4.trans m'.ex, ?_, fun p hp => ?_⟩
  · rw [List.map_append, List.nodup_append]
    refine ⟨m'.nd, m.nd, fun a ha b hb hab => ?_⟩
    obtain ⟨p, hp, rfl⟩ := List.mem_map.mp ha
    obtain ⟨q, hq, rfl⟩ := List.mem_map.mp hb
    obtain ⟨f1, _⟩ := m'.own p hp
    obtain ⟨_, f2⟩ := m.own q hq
    obtain ⟨u, hu⟩ := f2.there
    have := e3 _ _ hu
    rw [← hab, f1] at this
    cases this
  · rcases List.mem_append.mp hp with hp | hp
    · obtain ⟨f1, f2⟩ := m'.own p hp
      have hn : H p.1 = none := exBack e3 f1
      refine ⟨by rw [thaw_old hn]; exact f1, ?_⟩
      have hl := hM p hp
      obtain ⟨p1, p2⟩ := p
      cases p2 with
      | lst ds => obtain ⟨vs, e, r⟩ := f2; exact ⟨vs, e, r.thaw e3 hl⟩
      | dct ds => obtain ⟨vs, e, k, r⟩ := f2; exact ⟨vs, e, k, r.thaw e3 hl⟩
      | ins C fs =>
        obtain ⟨dx, gs, e, e2, n, k, r⟩ := f2
        exact ⟨dx, gs, e, e2, by rw [thaw_old (exBack e3 n)]; exact n, k, r.thaw e3 hl⟩
    · obtain ⟨f1, f2⟩ := m.own p hp
      refine ⟨thaw_own f1 f2, ?_⟩
      have ex := thaw_ex (F3 := F3) m.ex
      obtain ⟨p1, p2⟩ := p
      cases p2 with
      | lst ds => obtain ⟨vs, e, r⟩ := f2; exact ⟨vs, eH _ _ e, r.mono ex⟩
      | dct ds => obtain ⟨vs, e, k, r⟩ := f2; exact ⟨vs, eH _ _ e, k, r.mono ex⟩
      | ins C fs =>
        obtain ⟨dx, gs, e, e2, n, k, r⟩ := f2
        exact ⟨dx, gs, eH _ _ e, eH _ _ e2, by unfold thawF; rw [e2]; exact n, k, r.mono ex⟩
/-- as a callee reads an owned list: frozen -/
inductive Bor (M : Mem) : D → D → Prop
  | same (d : D) : Bor M d d
  | lst {l : Addr} {xs ys : List D} (h : (l, MO.lst xs) ∈ M) (n : xs.length = ys.length) (g : ∀ (i : Nat) (x y : D), xs[i]? = some x → ys[i]? = some y → Bor M x y) : Bor M (.raw (.ref l)) (.lst ys)
  | lst0 {l : Addr} {xs : List D} (h : (l, MO.lst xs) ∈ M) : Bor M (.raw (.ref l)) (.lst xs)
  | tup {xs ys : List D} (n : xs.length = ys.length) (g : ∀ (i : Nat) (x y : D), xs[i]? = some x → ys[i]? = some y → Bor M x y) : Bor M (.tup xs) (.tup ys)
theorem Bor.read {MM : Mem} (m : RelM K MM F H) (hs : ∀ p ∈ M, p ∈ MM) {d d' : D} (b : Bor M d d') : ∀ {v : V}, R K F v d → R K H v d' := by
  induction b with
  | same d => exact fun r => r.mono m.ex
  | @lst l xs ys h n g ih =>
    intro v r
    cases r
    obtain ⟨_, vs, e, ra⟩ := m.own _ (hs _ h)
    refine .lst e (by rw [ra.1, n]) fun i v d h1 h2 => ?_
    have hlt : i < xs.length := by rw [n]; exact (List.getElem?_eq_some_iff.mp h2).1
    exact ih i xs[i] d (by simp [hlt]) h2 (ra.2 i v xs[i] h1 (by simp [hlt]))
  | @lst0 l xs h =>
    intro v r
    cases r
    obtain ⟨_, vs, e, ra⟩ := m.own _ (hs _ h)
    exact .lst e ra.1 fun i v d h1 h2 => (ra.2 i v d h1 h2).mono m.ex
  | @tup xs ys n g ih =>
    intro v r
    obtain ⟨a, vs, rfl, hq, ra⟩ := r.tuple m.ex
    refine .tup hq (by rw [ra.1, n]) fun i v d h1 h2 => ?_
    have hlt : i < xs.length := by rw [n]; exact (List.getElem?_eq_some_iff.mp h2).1
    exact ih i xs[i] d (by simp [hlt]) h2 (ra.2 i v xs[i] h1 (by simp [hlt]))
/-- pairwise -/
def BorL (M : Mem) (ds ds' : List D) : Prop := ds.length = ds'.length ∧ ∀ (i : Nat) (x y : D), ds[i]? = some x → ds'[i]? = some y → Bor M x y
theorem BorL.nil : BorL M [] [] := ⟨rfl, fun i x y h => by simp at h⟩
theorem BorL.cons {d d' : D} {ds ds' : List D} (b : Bor M d d') (h : BorL M ds ds') : BorL M (d :: ds) (d' :: ds') := ⟨by simp [h.1], fun i x y h1 h2 => by
  cases i with
  | zero => simp at h1 h2; subst h1; subst h2; exact b
  | succ i => exact h.2 i x y (by simpa using h1) (by simpa using h2)⟩
theorem BorL.read {MM : Mem} (m : RelM K MM F H) (hs : ∀ p ∈ M, p ∈ MM) {ds ds' : List D} (b : BorL M ds ds') {vs : List V} (r : RA K F vs ds) : RA K H vs ds' := ⟨by rw [r.1, b.1], fun i v d h1 h2 => by
  have hlt : i < ds.length := by rw [b.1]; exact (List.getElem?_eq_some_iff.mp h2).1
  exact (b.2 i ds[i] d (by simp [hlt]) h2).read m hs (r.2 i v ds[i] h1 (by simp [hlt]))⟩
end
section
variable {X : Cx} {e a b c : Expr} {es : List Expr} {st : Sls} {M Mx : Mem} {E : EK} {Q : DK} {F F' H H' : Hp} {σ : L2.St} {Wx : WX} {P : Post} {x : Str} {pos p : Pos} {mg : Str → Option Value} {d : D}
theorem ErAt.thaw {K : PySem.W.Frag} {F F3 H : Hp} (e3 : Ex H F3) {er : Er} {cls : Value} {dd : Option Addr} {H' : Hp} (h : ErAt K er cls dd F3 H') (hn : D.noLs (er.fs.map (·.2)) = true) : ErAt K er cls dd (thawF F H F3) H' := by
  obtain ⟨h1, a, gs, h2, h3, h4, h5⟩ := h
  exact ⟨h1, a, gs, h2, h3, h4, h5.thaw e3 hn⟩
/-- a contract at a call to which owned lists are lent -/
def CtB (ct : Ct) (n : Nat) (ds : List D) (st : Sls) (M : Mem) (Q : DK) (E : EK) : Prop := ∃ ds', BorL M ds ds' ∧ ds'.length = n ∧
  ct ds' [] (fun d M' => d.noL = true ∧ (∀ p ∈ M', p.2.noL = true) ∧ Q d (M' ++ M)) (fun er M' => D.noLs (er.fs.map (·.2)) = true ∧ (∀ p ∈ M', p.2.noL = true) ∧ E er st (M' ++ M))
theorem ct_spB {ct : Ct} {ds : List D} {n : Nat} {vs : List V} {QV : VK} (h : CtB ct n ds st M Q E) (p : Pre X st M Mx F σ H E Wx) (r : RA X.K F vs ds) (k : ∀ v H', Pst X.K Mx F Q v H' → QV v H') : spOf X.K n ct vs H QV (WE Wx σ) := by
  obtain ⟨ds', hb, hl, hc⟩ := h
  have rb := hb.read p.m (fun q hq => List.mem_append_left _ hq) r
  refine ⟨by rw [rb.1, hl], ds', [], [], H, _, _, ⟨Ex.refl H, List.nodup_nil, fun q hq => absurd hq (by simp)⟩, rb, hc, fun v H' ⟨d, M', F3, ⟨n1, n2, q⟩, ex, rv, m⟩ => k v H' ⟨d, M' ++ M, thawF F H F3, q, thaw_ex p.m.ex, rv.thaw ex n1, ?_⟩, fun er M' F3 H' cls d ⟨n1, n2, q⟩ ex ea m => p.wi er st (M' ++ M) (thawF F H F3) H' cls d σ q (thaw_ex p.m.ex) (p.sl.mono (thaw_ex p.m.ex)) (ea.thaw ex n1) ?_⟩
  · rw [List.append_nil] at m
    rw [List.append_assoc]
    exact thaw p.m ex m n2
  · rw [List.append_nil] at m
    rw [List.append_assoc]
    exact thaw p.m ex m n2
variable {N : List Str} {sc : Scope} {fn : Str → Bool} {jj : Nat} {Pr : Program} {w : World} {K : PySem.W.Frag} {base : Heap} {C : Addr}
theorem ej_fnB {k : Nat} {ps : List Str} {ct : Ct} (Fo : FnI Pr w K mg base k x ps ct) (cf : Cf X Pr w K mg base N sc fn jj) (hk : Nat.ble k jj = true) (hg : sc.names.lookup x = some .globalImplicit) (hp : plainN x = true) (h : AJ X (a :: es) st M (fun ds M1 => CtB ct ps.length ds st M1 Q E) E)
    (he : starEach (a :: es) X.env = (false, eval a X.env) :: starEach es X.env := by rfl) (hpl : (backTo pos (starEach es X.env)).any (·.1) = false := by rfl) : EJ X (.Call (.Name x p) (a :: es) [] pos) st M Q E := by
  have hg' := gl_of cf hg
  obtain ⟨rfl, rfl, rfl, rfl, rfl, _, _, _, hr, _, _⟩ := cf
  intro Mx F σ H Wx pp
  obtain ⟨f, fd, hm, Fn, hb, hkp⟩ := Fo.ex
  refine W.of (pe_callS Fn (hr.mono (Nat.le_of_ble_eq_true hk)) hg' hm hkp hb (E := WE Wx) (fun σ => passAt pp.tk σ) pa_W (plainN_1 hp) he hpl) ?_
  exact h.bind pp fun ds M1 F1 vs H1 q e1 r1 p1 => ct_spB q p1 r1 fun v H' z => z.mono e1
/-- C(e, ..), owned lists lent; the instance is given back owned -/
theorem ej_makeB {k : Nat} {ps : List Str} {ct : Ct} (MI : MkI X.prog X.w X.K X.mg X.base k x C ps ct) (hr : Room (k + 1) X.A) (hg : Gl X x)
    (h : AJ X (e :: es) st M (fun ds M1 => ∃ ds', BorL M1 ds ds' ∧ ds'.length + 1 = ps.length ∧ ∀ a, ct (.raw (.ref a) :: ds') [(a, .ins C [])] (fun d M' => d = .non ∧ (∀ p ∈ M', p.2.noL = true) ∧ Q (.raw (.ref a)) (M' ++ M1)) (fun er M' => D.noLs (er.fs.map (·.2)) = true ∧ (∀ p ∈ M', p.2.noL = true) ∧ E er st (M' ++ M1))) E)
    (hdb : (x == ("__debug__" : Str)) = false := by decide) (he : starEach (e :: es) X.env = (false, eval e X.env) :: starEach es X.env := by rfl) (hpl : (backTo pos (starEach es X.env)).any (·.1) = false := by rfl) :
    EJ X (.Call (.Name x p) (e :: es) [] pos) st M Q E := fun Mx F σ H Wx pp pins s I => by
  obtain ⟨f, fd, hmg, Mk', Fn, hb⟩ := MI.ex
  refine wpAny_Call_Name_kw (ld_glob I hg hmg ?_ hdb)
  refine PySem.W.callWith_K (h₀ := X.base) I.ok.mod.kin Mk'.kp (thn (AJ.bind h pp (QV := fun vs H2 => ∃ ds M2 F2, (∃ ds', BorL M2 ds ds' ∧ ds'.length + 1 = ps.length ∧ ∀ a, ct (.raw (.ref a) :: ds') [(a, .ins C [])] (fun d M' => d = .non ∧ (∀ p ∈ M', p.2.noL = true) ∧ Q (.raw (.ref a)) (M' ++ M2)) (fun er M' => D.noLs (er.fs.map (·.2)) = true ∧ (∀ p ∈ M', p.2.noL = true) ∧ E er st (M' ++ M2))) ∧ Ex F F2 ∧ RA X.K F2 vs ds ∧ Pre X st M2 Mx F2 σ H2 E Wx) (fun ds M2 F2 vs H2 q2 e2 r2 p2 => ⟨ds, M2, F2, q2, e2, r2, p2⟩) pos pins s I) fun us s1 ⟨vs, H1, I1, r, ds, M2, F2, ⟨ds', hbor, hlen, hct⟩, e2, r2, p2⟩ => ⟨I1.kIn, ?_⟩) he hpl
  have hn1 := I1.hok.fresh (Nat.le_succ s1.heap.objs.size)
  have hn2 := I1.hok.fresh (Nat.le_refl s1.heap.objs.size)
  have hne : s1.heap.objs.size ≠ s1.heap.objs.size + 1 := Nat.ne_of_lt (Nat.lt_succ_self _)
  have I2 := Inv.made (C := C) I1
  have hfresh : upd H1 s1.heap.objs.size (.own (s1.heap.objs.size + 1)) (s1.heap.objs.size + 1) = none := by rw [upd_ne (Ne.symm hne)]; exact hn1
  have exH : Ex H1 (upd (upd H1 s1.heap.objs.size (.own (s1.heap.objs.size + 1))) (s1.heap.objs.size + 1) (.ins C s1.heap.objs.size [])) := (Ex.new hn2).trans (Ex.new hfresh)
  have m0 : RelM X.K ([(s1.heap.objs.size + 1, MO.ins C [])] ++ []) H1 (upd (upd H1 s1.heap.objs.size (.own (s1.heap.objs.size + 1))) (s1.heap.objs.size + 1) (.ins C s1.heap.objs.size [])) := by
    refine ⟨exH, by simp, fun q hq => ?_⟩
    rw [List.append_nil, List.mem_singleton] at hq
    subst hq
    exact ⟨hn1, s1.heap.objs.size, [], upd_same, by rw [upd_ne hne]; exact upd_same, hn2, rfl, RA.nil⟩
  have rb := hbor.read p2.m (fun q hq => List.mem_append_left _ hq) r2
  have hq : spOf X.K ps.length ct (.ref (s1.heap.objs.size + 1) :: vs) (upd (upd H1 s1.heap.objs.size (.own (s1.heap.objs.size + 1))) (s1.heap.objs.size + 1) (.ins C s1.heap.objs.size [])) (fun v H' => v = .non ∧ Pst X.K Mx F2 Q (.ref (s1.heap.objs.size + 1)) H') (WE Wx σ) := by
    refine ⟨by rw [List.length_cons, rb.1, hlen], .raw (.ref (s1.heap.objs.size + 1)) :: ds', [(s1.heap.objs.size + 1, .ins C [])], [], H1, _, _, m0, RA.cons (.raw _) rb, hct (s1.heap.objs.size + 1), fun v H' ⟨d, M', F3, ⟨ed, n2, q⟩, ex, rv, m⟩ => ?_, fun er M' F3 H' cls d ⟨n1, n2, q⟩ ex ea m => p2.wi er st (M' ++ M2) (thawF F2 H1 F3) H' cls d σ q (thaw_ex p2.m.ex) (p2.sl.mono (thaw_ex p2.m.ex)) (ea.thaw ex n1) ?_⟩
    · subst ed
      cases rv
      refine ⟨rfl, .raw _, M' ++ M2, thawF F2 H1 F3, q, thaw_ex p2.m.ex, .raw _, ?_⟩
      rw [List.append_nil] at m
      rw [List.append_assoc]
      exact thaw p2.m ex m n2
    · rw [List.append_nil] at m
      rw [List.append_assoc]
      exact thaw p2.m ex m n2
  have hl := Fn.len _ _ _ _ hq
  have r3 : Vals (V.ref (s1.heap.objs.size + 1) :: vs) (Value.ref (s1.heap.objs.size + 1) :: us) := .cons rfl r
  have hl2 : (Value.ref (s1.heap.objs.size + 1) :: us ++ []).length = ps.length := by rw [List.append_nil, ← r3.length]; exact hl
  have hb' := hb _ (Value.ref (s1.heap.objs.size + 1) :: us) I2.kIn hl2
  rw [List.append_nil] at hb'
  refine wpAny_call (make_map (f := f) I1.kIn Mk'.makes Mk'.init (beq_iff_eq.mp Mk'.fn) (codeAny_mono (Fn.run _ X.stack _ _ ⟨Value.ref (s1.heap.objs.size + 1) :: us, []⟩ (Value.ref (s1.heap.objs.size + 1) :: us) _ _ (WE Wx σ) (hr.make C us [])
    (I2.env0.make C us []) hb' r3 hq) fun r' s' hq' => ?_))
  cases r' with
  | error er => exact passAt p2.tk σ pins _ _ er s' I2 hq'
  | ok fl =>
    cases fl with
    | ret u =>
      obtain ⟨v, H', I3, rv, ev, q3⟩ := I2.after hq'
      subst ev
      exact ⟨rv, ⟨V.ref (s1.heap.objs.size + 1), H', I3, rfl, q3.mono e2⟩⟩
    | next => exact False.elim hq'
    | brk => exact False.elim hq'
    | cont => exact False.elim hq'
theorem ej_mkB {k : Nat} {ps : List Str} {ct : Ct} (MI : MkI Pr w K mg base k x C ps ct) (cf : Cf X Pr w K mg base N sc fn jj) (hk : Nat.ble (k + 1) jj = true) (hg : sc.names.lookup x = some .globalImplicit) (hp : plainN x = true)
    (h : AJ X (e :: es) st M (fun ds M1 => ∃ ds', BorL M1 ds ds' ∧ ds'.length + 1 = ps.length ∧ ∀ a, ct (.raw (.ref a) :: ds') [(a, .ins C [])] (fun d M' => d = .non ∧ (∀ p ∈ M', p.2.noL = true) ∧ Q (.raw (.ref a)) (M' ++ M1)) (fun er M' => D.noLs (er.fs.map (·.2)) = true ∧ (∀ p ∈ M', p.2.noL = true) ∧ E er st (M' ++ M1))) E)
    (he : starEach (e :: es) X.env = (false, eval e X.env) :: starEach es X.env := by rfl) (hpl : (backTo pos (starEach es X.env)).any (·.1) = false := by rfl) : EJ X (.Call (.Name x p) (e :: es) [] pos) st M Q E := by
  have hg' := gl_of cf hg
  obtain ⟨rfl, rfl, rfl, rfl, rfl, _, _, _, hr, _, _⟩ := cf
  exact ej_makeB MI (hr.mono (Nat.le_of_ble_eq_true hk)) hg' h (plainN_1 hp) he hpl
/-! an owned instance, a field of which is an owned list, frozen -/
theorem RelM.reread {K : PySem.W.Frag} {M : Mem} {F H : Hp} {a : Addr} {o o' : MO} (m : RelM K ((a, o) :: M) F H) (h : MOk K F H a o') : RelM K ((a, o') :: M) F H :=
  ⟨m.ex, m.nd, fun p hp => by
    rcases List.mem_cons.mp hp with rfl | hp
    · exact ⟨(m.own (a, o) List.mem_cons_self).1, h⟩
    · exact m.own p (List.mem_cons_of_mem _ hp)⟩
theorem ej_frzI (h : EJ X e st M (fun d M1 => ∃ a C fs M2, d = .raw (.ref a) ∧ M1 = (a, .ins C fs) :: M2 ∧ Q (.ins C fs) M2) E) : EJ X e st M Q E := fun Mx F σ H Wx p => by
  refine h.bind p fun d M1 F1 v H1 ⟨a, C, fs, M2, ed, em, q⟩ e1 r1 p1 => ?_
  subst ed em
  cases r1
  obtain ⟨F', e2, r, m'⟩ := RelM.freezeI (i := 0) p1.m rfl
  exact ⟨_, M2, F', q, e1.trans e2, r, m'⟩
theorem ej_frzI2 {f : Str} (h : EJ X e st M (fun d M1 => ∃ a C l xs M2, d = .raw (.ref a) ∧ M1 = (l, .lst xs) :: (a, .ins C [(f, .raw (.ref l))]) :: M2 ∧ Q (.ins C [(f, .lst xs)]) M2) E) : EJ X e st M Q E := fun Mx F σ H Wx p => by
  refine h.bind p fun d M1 F1 v H1 ⟨a, C, l, xs, M2, ed, em, q⟩ e1 r1 p1 => ?_
  subst ed em
  cases r1
  obtain ⟨F2, e2, r2, m2⟩ := RelM.freeze (i := 0) p1.m rfl
  have m2 : RelM X.K ((a, .ins C [(f, .raw (.ref l))]) :: (M2 ++ Mx)) F2 H1 := m2
  obtain ⟨_, dx, gs, g1, g2, g3, g4, g5⟩ := m2.own _ List.mem_cons_self
  have m3 := m2.reread (o' := .ins C [(f, .lst xs)]) ⟨dx, gs, g1, g2, g3, g4, by
    obtain ⟨v, e, rv⟩ := ra1 (d := .raw (.ref l)) g5
    cases rv
    rw [e]
    exact RA.cons r2 RA.nil⟩
  obtain ⟨F', e3, r, m'⟩ := RelM.freezeI (i := 0) m3 rfl
  exact ⟨_, M2, F', q, (e1.trans e2).trans e3, r, m'⟩
end
end SL

set_option maxHeartbeats 2000000
/-! Rules that the laws' own code wants. -/
namespace SL
open PySem PySem.Spec PyProof.Rows L2 Evl
section
variable {X : Cx} {e a b c : Expr} {es : List Expr} {st : Sls} {M Mx : Mem} {E : EK} {Q : DK} {F F' H H' : Hp} {σ : L2.St} {Wx : WX} {P : Post} {x : Str} {pos p : Pos} {mg : Str → Option Value} {d : D} {xs ys : List D} {i j : Int}
variable {N : List Str} {sc : Scope} {fn : Str → Bool} {jj : Nat} {Pr : Program} {w : World} {K : PySem.W.Frag} {base : Heap} {l : Addr}
/-! which stores swap: the scope alone tells -/
theorem swapped_sc {ts : List Expr} {v : Expr} {env env' : Env} (h : env.scope = env'.scope) : swappedStores ts v env = swappedStores ts v env' := by
  unfold swappedStores
  simp only [Env.kindOf, Env.blockKind, h]
  rfl
def envS (sc : Scope) : Env := envOfC Str.empty sc 0 0 .none
theorem s1_prs {i1 i2 : Nat} {y : Str} {px py pt : Pos} {kt k2 pt2} (h0 : Nm i1 x) (h1 : Nm i2 y) (cf : Cf X Pr w K mg base N sc fn jj) (hi : N[i1]? = some x) (hj : N[i2]? = some y) (hij : Nat.beq i1 i2 = false)
    (hx : sc.names.lookup x = some .local) (hy : sc.names.lookup y = some .local) (hw : swappedStores [.Tuple [.Name x px, .Name y py] kt pt] (.Tuple [a, b] k2 pt2) (envS sc) = pure (some [x, y]))
    (h : AJ X [a, b] st M (fun ds M1 => ∃ d1 d2, ds = [d1, d2] ∧ P.nx ((st.set i1 (some d1)).set i2 (some d2)) M1) P.er)
    (hs : swapsWithSole [.Tuple [.Name x px, .Name y py] kt pt] (.Tuple [a, b] k2 pt2) pos.line X.env = pure false := by rfl) :
    S1 X (.Assign [.Tuple [.Name x px, .Name y py] kt pt] (.Tuple [a, b] k2 pt2) pos) st M P :=
  s1_pr h0 h1 cf hi hj (fun e => by rw [e, Nat.beq_refl] at hij; cases hij) hx hy h (by rw [swapped_sc (env' := envS sc) (by rw [cf.sc]; rfl)]; exact hw) hs
/-- a, b = x, y, whatever they are: by a new tuple -/
theorem s1_ast {tg : Expr} {js : List Nat} (cf : Cf X Pr w K mg base N sc fn jj) (hw : swappedStores [tg] e (envS sc) = pure none) (h : EJ X e st M (fun d M1 => GJ X tg js d st M1 P.nx) P.er) (hs : swapsWithSole [tg] e pos.line X.env = pure false := by rfl)
    (h1 : (assignEach [tg] X.env).map (·.2) = [assign tg X.env] := by rfl) : S1 X (.Assign [tg] e pos) st M P := s1_asg h hs (by rw [swapped_sc (env' := envS sc) (by rw [cf.sc]; rfl)]; exact hw) h1
/-- list(range(a)) -/
theorem ej_listRg {p1 p2 pos2 : Pos} (hB : Bty mg "list" "list") (hB2 : Bty mg "range" "range") (cf : Cf X Pr w K mg base N sc fn jj) (hg : sc.names.lookup ("list" : Str) = some .globalImplicit) (hg2 : sc.names.lookup ("range" : Str) = some .globalImplicit)
    (h : EJ X a st M (fun d M1 => ∃ n : Int, d = .int n ∧ (0 ≤ n ∧ n ≤ 1000000) ∧ Q (.lst (rngD 0 n.toNat)) M1) E)
    (na : starEach [.Call (.Name "range" p2) [a] [] pos2] X.env = (false, eval (.Call (.Name "range" p2) [a] [] pos2) X.env) :: starEach [] X.env := by rfl) (nb : starEach [a] X.env = (false, eval a X.env) :: starEach [] X.env := by rfl) :
    EJ X (.Call (.Name "list" p1) [.Call (.Name "range" p2) [a] [] pos2] [] pos) st M Q E := fun Mx F σ H Wx p => by
  refine W.of (pe_listRg cf.calm (gl_of cf hg) (by rw [cf.m]; exact hB.m) (prg_1 (gl_of cf hg2) (by rw [cf.m]; exact hB2.m) pe_W nb) na) ?_
  refine h.bind p fun d M1 F1 v H1 ⟨n, ed, hn, q1⟩ e1 r1 p1 => ?_
  subst ed
  cases r1
  refine ⟨n, rfl, by unfold RgOk; omega, fun q hq => ?_⟩
  have e2 : rgV 0 n = ((List.range n.toNat).map fun (i : Nat) => (0 : Int) + (i : Int)).map V.int := by simp [rgV, Function.comp_def]
  have e3 : rngD 0 n.toNat = ((List.range n.toNat).map fun (i : Nat) => (0 : Int) + (i : Int)).map D.int := by simp [rngD, Function.comp_def]
  rw [e2]
  refine (pst_lst (Q := Q) p1.m (xs := rngD 0 n.toNat) ?_ hq q1).mono e1
  rw [e3]
  exact ints_ra
theorem own_dp {K : PySem.W.Frag} {n : Nat} (m : RelM K (M ++ Mx) F H) (hn : M[n]? = some (l, .lst xs)) (ho : D.oks xs 63 = true) : Dp K H (.ref l) (D.py (.lst xs)) := by
  obtain ⟨_, vs, e, ra⟩ := own_at m hn
  exact dp_of (Ex.refl H) (.lst xs) 64 _ (by simp [D.ok, ho]) (.lst e (ra.mono m.ex).1 (ra.mono m.ex).2)
/-- an owned list != a datum -/
theorem od_neO (n : Nat) (hn : M[n]? = some (l, .lst xs)) (h1 : D.oks xs 63 = true) (h2 : d.ok 64 = true) (h : Q (.bl (!(D.lst xs).eqv d)) M) : OpD X (compareOp .NotEq) (.raw (.ref l)) d M Q := fun Mx F H v1 v2 QV p r1 r2 k => by
  cases r1
  exact rOp.of (op_neD p.un) ⟨_, d.py, own_dp p.m hn h1, dp_of p.m.ex d 64 v2 h2 r2, shp_of (d := .lst xs) (by simp [D.ok, h1]), shp_of h2, k _ _ (pst_same p.m (.bl _) h)⟩
/-- min, max, index of an owned list of ints -/
theorem own_ints {K : PySem.W.Frag} {ns : List Int} {n : Nat} (m : RelM K (M ++ Mx) F H) (hn : M[n]? = some (l, .lst (ns.map .int))) : H l = some (.lst (ns.map V.int)) := by
  obtain ⟨_, vs, e, ra⟩ := own_at m hn
  rw [ra_ints ra] at e
  exact e
theorem cd_minO (n : Nat) {ns : List Int} (hc : X.calm = true) (hn : M[n]? = some (l, .lst (ns.map .int))) (h0 : 0 < ns.length) (q : ∀ m, m ∈ ns → (∀ y ∈ ns, m ≤ y) → Q (.int m) M) : ClD X (.builtin "min") [.raw (.ref l)] M Q := fun Mx F H vs QV p r k => by
  obtain ⟨v, rfl, r1⟩ := ra1 r
  cases r1
  exact rCl.of (cr_min hc) ⟨l, ns, rfl, SqL.of (own_ints p.m hn), h0, fun m h2 h3 => k _ _ (pst_same p.m (.int _) (q m h2 h3))⟩
theorem md_indexO (n : Nat) {ns : List Int} {i : Int} (hn : M[n]? = some (l, .lst (ns.map .int))) (hm : i ∈ ns) (q : Q (.int (ns.idxOf i : Nat)) M) : MtD X "list.index" "list" (.raw (.ref l)) [.int i] M Q := fun Mx F H v vs QV p r ra k => by
  cases r
  obtain ⟨y, rfl, ry⟩ := ra1 ra
  cases ry
  have hlt : ns.idxOf i < ns.length := List.idxOf_lt_length_iff.mpr hm
  refine rMt.of mt_index ⟨l, ns.map V.int, .int i, ns.idxOf i, .int i, rfl, rfl, SqL.of (own_ints p.m hn), rfl, by simp [flatV], ?_, by simp [eqV], fun m z hmz hz => ?_, k _ _ (pst_same p.m (.int _) q)⟩
  · rw [List.getElem?_map, List.getElem?_eq_getElem hlt, List.getElem_idxOf]; rfl
  · rw [List.getElem?_map] at hz
    have hml : m < ns.length := Nat.lt_trans hmz hlt
    rw [List.getElem?_eq_getElem hml] at hz
    cases hz
    have := List.not_of_lt_findIdx (p := (· == i)) (xs := ns) (by simpa [List.idxOf] using hmz)
    simpa [eqV] using this
/-- the newest list, which the next one holds as its last item, is frozen -/
theorem sj_frzIn {ss : List Stmt} {q : Addr} {M2 : Mem} (k : Nat) (hm : M = (l, .lst xs) :: (q, .lst (ys ++ [.raw (.ref l)])) :: M2) (h : SJ X ss (st.set k none) ((q, .lst (ys ++ [.lst xs])) :: M2) P) (hk : st[k]? = some (some (.raw (.ref l)))) : SJ X ss st M P := fun Mx F σ H Wx p hp => by
  subst hm
  obtain ⟨F2, e2, r2, m2⟩ := RelM.freeze (i := 0) p.m rfl
  have m2 : RelM X.K ((q, .lst (ys ++ [.raw (.ref l)])) :: (M2 ++ Mx)) F2 H := m2
  obtain ⟨_, vs, g1, g2⟩ := m2.own _ List.mem_cons_self
  have m3 := m2.reread (o' := .lst (ys ++ [.lst xs])) ⟨vs, g1, by
    refine ⟨by have := g2.1; simpa using this, fun i v d h1 h2 => ?_⟩
    by_cases hi : i < ys.length
    · rw [List.getElem?_append_left hi] at h2
      exact g2.2 i v d h1 (by rw [List.getElem?_append_left hi]; exact h2)
    · rw [List.getElem?_append_right (by omega)] at h2
      have hi2 : i - ys.length = 0 := by
        have := (List.getElem?_eq_some_iff.mp h2).1
        simp at this
        omega
      rw [hi2] at h2
      cases h2
      have rv := g2.2 i v (.raw (.ref l)) h1 (by rw [List.getElem?_append_right (by omega), hi2]; rfl)
      cases rv
      exact r2⟩
  have sl : Slots X.K F2 (st.set k none) σ := by
    obtain ⟨a1, a2⟩ := p.sl.mono e2
    refine ⟨by simp [a1], fun i d hd => ?_⟩
    by_cases q : k = i
    · subst q
      rw [List.getElem?_set] at hd
      simp only [if_true] at hd
      split at hd <;> cases hd
    · rw [List.getElem?_set_ne q] at hd
      exact a2 i d hd
  exact endsMono e2 (h Mx F2 σ H Wx ⟨sl, m3, p.tk, p.wi.mono e2, p.un⟩ hp)
variable {elt tg : Expr} {scope : Scope} {vs : List Nat} {ds : List D} {M1 : Mem} {QL : List D → Mem → Prop}
/-- a comprehension whose element changes what is owned -/
theorem lcj_eff (I : Nat → List D → Mem → Prop) (js : List Nat) (hjs : ∀ k ∈ js, k ∈ vs) (hl : ds.length ≤ 1000000) (h0 : I 0 [] M1)
    (h : ∀ i d acc M', ds[i]? = some d → I i acc M' → ∀ Y, BX X scope Y → GJ Y tg js d (wipeD st vs) M' (fun st2 M2 => ∀ Y, BX X scope Y → EJ Y elt st2 M2 (fun d' M4 => I (i + 1) (acc ++ [d']) M4) noE))
    (q : ∀ acc M', acc.length ≤ ds.length → I ds.length acc M' → QL acc M') : LcJ X elt tg [] scope vs st ds M1 QL := by
  refine ⟨hl, I, h0, fun i d acc M' hd iv => ⟨js, hjs, fun Y hY => ?_⟩, q⟩
  refine (h i d acc M' hd iv Y hY).mono fun st2 M2 k Y hY => ?_
  unfold FJ
  dsimp only
  rw [if_pos rfl]
  exact k
def fnK (sc : Scope) : Bool := match sc.kind with
  | .function => true
  | _ => false
theorem fnK_of {sc : Scope} (h : fnK sc = true) : sc.kind = .function := by
  unfold fnK at h
  split at h
  · assumption
  · cases h
variable {iter : Expr} {ifs : List Expr}
/-- name = [..] on one line, the list owned -/
theorem s1_lcO {i : Nat} (own : List (Str × Nat)) {py spos : Pos} (h0 : Nm i x) (cf : Cf X Pr w K mg base N sc fn jj) (hi : N[i]? = some x) (hk : fnK sc = true) (hxl : sc.names.lookup x = some .local) (hl : (py.line == pos.line) = true)
    (ha : (scope.names.any fun (n, k) => n == x && (k == .local || k == .cell)) = false) (ok : blkC N sc scope own = true)
    (h : IJ X tg iter st M (fun ds M1 => LcJ X elt tg ifs scope (own.map (·.2)) st ds M1 (fun acc M2 => ∀ l, P.nx (st.set i (some (.raw (.ref l)))) ((l, .lst acc) :: M2))) P.er) (hs : ∀ x, foldedSetIterable iter X.env x = pure x := by intro _; rfl) :
    S1 X (.Assign [.Name x py] (.ListComp elt [⟨tg, iter, ifs, 0⟩] scope pos) spos) st M P :=
  s1_setLcO i own cf.calm (by rw [cf.n]; exact cf.nd) (by rw [cf.n]; exact hi) (by rw [cf.sc]; exact hxl) (sw_true (by rw [cf.sc]; exact fnK_of hk) (by rw [cf.sc]; exact hxl) hl ha) (by rw [cf.n, cf.sc]; exact blkOk_by ok) h hs
theorem s1_frzPost {s : Stmt} {i : Nat} (h : S1 X s st M { P with nx := fun st' M' => ∃ l acc M2, st' = st.set i (some (.raw (.ref l))) ∧ M' = (l, .lst acc) :: M2 ∧ P.nx (st.set i (some (.lst acc))) M2 }) : S1 X s st M P := fun Mx F σ H Wx p hp => by
  refine (h Mx F σ H Wx p hp).imp (fun σ' H' ⟨st', M', F', ⟨l, acc, M2, e1, e2, q⟩, ex, sl, m⟩ => ?_) (fun _ _ q => q) (fun _ _ q => q) (fun _ _ q => q)
  subst e1 e2
  obtain ⟨F2, ex2, r, m2⟩ := RelM.freeze (i := 0) m rfl
  refine ⟨_, M2, F2, q, ex.trans ex2, ⟨by have := sl.1; simpa using this, fun j d hd => ?_⟩, m2⟩
  by_cases hj : i = j
  · subst hj
    have hlt : i < st.length := by
      have := (List.getElem?_eq_some_iff.mp hd).1
      simpa using this
    rw [List.getElem?_set_self hlt] at hd
    cases hd
    obtain ⟨v, hv, rv⟩ := sl.2 i (.raw (.ref l)) (by rw [List.getElem?_set_self hlt])
    cases rv
    exact ⟨_, hv, r⟩
  · rw [List.getElem?_set_ne hj] at hd
    obtain ⟨v, hv, rv⟩ := sl.2 j d (by rw [List.getElem?_set_ne hj]; exact hd)
    exact ⟨v, hv, rv.mono ex2⟩
/-- .. frozen -/
theorem s1_lcF {i : Nat} (own : List (Str × Nat)) {py spos : Pos} (h0 : Nm i x) (cf : Cf X Pr w K mg base N sc fn jj) (hi : N[i]? = some x) (hk : fnK sc = true) (hxl : sc.names.lookup x = some .local) (hl : (py.line == pos.line) = true)
    (ha : (scope.names.any fun (n, k) => n == x && (k == .local || k == .cell)) = false) (ok : blkC N sc scope own = true)
    (h : IJ X tg iter st M (fun ds M1 => LcJ X elt tg ifs scope (own.map (·.2)) st ds M1 (fun acc M2 => P.nx (st.set i (some (.lst acc))) M2)) P.er) (hs : ∀ x, foldedSetIterable iter X.env x = pure x := by intro _; rfl) :
    S1 X (.Assign [.Name x py] (.ListComp elt [⟨tg, iter, ifs, 0⟩] scope pos) spos) st M P :=
  s1_frzPost (s1_lcO own h0 cf hi hk hxl hl ha ok (fun Mx F σ H Wx p pins s I0 => thn (h Mx F σ H Wx p pins s I0) fun v s1 h1 => thn h1 fun itv s2 ⟨it, fp, tn, J, H2, e0, I2, T, st2, f2, ds, M1, F1, q, r⟩ => ⟨it, fp, tn, J, H2, e0, I2, T, st2, f2, ds, M1, F1, (by
    obtain ⟨a1, I, a2, a3, a4⟩ := q
    exact ⟨a1, I, a2, a3, fun acc M' hl iv l => ⟨l, acc, M', rfl, rfl, a4 acc M' hl iv⟩⟩), r⟩) hs)
end
end SL

set_option maxHeartbeats 2000000
namespace SL
open PySem PySem.Spec PyProof.Rows L2 Evl
local macro_rules | `(tactic| wtm_at "sl e") => `(tactic| first
  | ((with_reducible show EJ _ (Expr.Name _ _) _ _ _ _); first | ((with_reducible refine' ej_nm ?h0 ?h1 ?h2 ?h3 ?h4 ?h5 ?_); (case h0 => with_reducible assumption); (case h1 => with_reducible assumption); (case h2 => kernel_rfl); (case h3 => kernel_rfl); (case h4 => rfl); (case h5 => kernel_rfl)) | ((with_reducible refine' ej_cn ?h0 ?h1 ?h2 ?_); (case h0 => with_reducible assumption); (case h1 => with_reducible assumption); (case h2 => kernel_rfl)) | ((with_reducible refine' ej_ty ?h0 ?h1 ?h2 ?_); (case h0 => with_reducible assumption); (case h1 => with_reducible assumption); (case h2 => kernel_rfl)))
  | ((with_reducible show EJ _ (Expr.Constant (Const.int _) _ _) _ _ _ _); refine ej_int ?_)
  | ((with_reducible show EJ _ (Expr.Constant (Const.str _) _ _) _ _ _ _); refine ej_str ?_)
  | ((with_reducible show EJ _ (Expr.Constant (Const.bool _) _ _) _ _ _ _); refine ej_bl ?_)
  | ((with_reducible show EJ _ (Expr.Constant Const.none _ _) _ _ _ _); refine ej_non ?_)
  | ((with_reducible show EJ _ (Expr.BinOp _ _ _ _) _ _ _ _); refine ej_op ?_)
  | ((with_reducible show EJ _ (Expr.UnaryOp UnaryOp.Not _ _) _ _ _ _); refine ej_not ?_)
  | ((with_reducible show EJ _ (Expr.UnaryOp _ _ _) _ _ _ _); refine ej_un ?_)
  | ((with_reducible show EJ _ (Expr.Tuple _ _ _) _ _ _ _); refine ej_tup ?_)
  | ((with_reducible show EJ _ (Expr.BoolOp _ [_] _) _ _ _ _); refine ej_one ?_)
  | ((with_reducible show EJ _ (Expr.BoolOp BoolOp.And _ _) _ _ _ _); refine ej_and ?_)
  | ((with_reducible show EJ _ (Expr.BoolOp BoolOp.Or _ _) _ _ _ _); refine ej_or ?_)
  | ((with_reducible show EJ _ (Expr.IfExp _ _ _ _) _ _ _ _); refine ej_if ?_)
  | ((with_reducible show EJ _ (Expr.Compare _ [_] _ _) _ _ _ _); (with_reducible refine' ej_cmp ?_ ?h1); (case h1 => first | exact nomark _ | rfl))
  | ((with_reducible show EJ _ (Expr.Compare _ [_, _] _ _) _ _ _ _); (with_reducible refine' ej_chain ?_ ?h1); (case h1 => rfl))
  | ((with_reducible show EJ _ (Expr.Subscript _ (Expr.Slice _ _ _ _) _) _ _ _ _); refine ej_slice ?_)
  | ((with_reducible show EJ _ (Expr.Subscript _ _ _) _ _ _ _); (with_reducible refine' ej_ix ?_ ?h1); (case h1 => intro _ _; rfl))
  | ((with_reducible show EJ _ (Expr.Call (Expr.Name _ _) (_ :: _) [] _) _ _ _ _); first | ((with_reducible refine' ej_cB ?h0 ?h1 ?h2 ?_ ?h3 ?h4); (case h0 => with_reducible assumption); (case h1 => with_reducible assumption); (case h2 => kernel_rfl); (case h3 => rfl); (case h4 => rfl)) | ((with_reducible refine' ej_cT ?h0 ?h1 ?h2 ?_ ?h3 ?h4); (case h0 => with_reducible assumption); (case h1 => with_reducible assumption); (case h2 => kernel_rfl); (case h3 => rfl); (case h4 => rfl)) | ((with_reducible refine' ej_fn ?h0 ?h1 ?h2 ?h3 ?h4 ?_ ?h5 ?h6); (case h0 => with_reducible assumption); (case h1 => with_reducible assumption); (case h2 => kernel_rfl); (case h3 => kernel_rfl); (case h4 => kernel_rfl); (case h5 => rfl); (case h6 => rfl)) | ((with_reducible refine' ej_mk ?h0 ?h1 ?h2 ?h3 ?h4 ?_ ?h5 ?h6); (case h0 => with_reducible assumption); (case h1 => with_reducible assumption); (case h2 => kernel_rfl); (case h3 => kernel_rfl); (case h4 => kernel_rfl); (case h5 => rfl); (case h6 => rfl))))
local macro_rules | `(tactic| wtm_at "sl f") => `(tactic| first
  | ((with_reducible show EJ _ (Expr.Attribute _ _ _) _ _ _ _); (with_reducible refine' ej_fl ?h0 ?h1 ?h2 ?_ ?h3); (case h0 => with_reducible assumption); (case h1 => with_reducible assumption); (case h2 => with_reducible assumption); (case h3 => rfl))
  | ((with_reducible show SJ _ (Stmt.Assign [Expr.Attribute _ _ _] _ _ :: _) _ _ _); (with_reducible refine' sj_cons (s1_fl ?h0 ?h1 ?h2 ?_ ?h3)); (case h0 => with_reducible assumption); (case h1 => with_reducible assumption); (case h2 => with_reducible assumption); (case h3 => rfl))
  | ((with_reducible show EJ _ (Expr.Call (Expr.Attribute _ _ _) (_ :: _) [] _) _ _ _ _); (with_reducible refine' ej_mt ?h0 ?h1 ?h2 ?_ ?h3 ?h4 ?h5); (case h0 => with_reducible assumption); (case h1 => with_reducible assumption); (case h2 => kernel_rfl); (case h3 => rfl); (case h4 => rfl); (case h5 => rfl))
  | ((with_reducible show EJ _ (Expr.Call (Expr.Attribute _ _ _) [] [] _) _ _ _ _); (with_reducible refine' ej_mt0 ?h0 ?h1 ?h2 ?_ ?h3); (case h0 => with_reducible assumption); (case h1 => with_reducible assumption); (case h2 => kernel_rfl); (case h3 => rfl)))
local macro_rules | `(tactic| wtm_at "sl b") => `(tactic| first
  | ((with_reducible show EJ _ (Expr.Call (Expr.Attribute _ (Str.ofString "append") _) (_ :: _) [] _) _ _ _ _); (with_reducible refine' ej_bm PySem.F.plainAttrs_list PySem.F.slot_list_append PySem.F.type_list_append ?_ ?h1 ?h2 ?h3 ?h4 ?h5); (case h1 => rfl); (case h2 => rfl); (case h3 => rfl); (case h4 => rfl); (case h5 => rfl))
  | ((with_reducible show EJ _ (Expr.Call (Expr.Attribute _ (Str.ofString "extend") _) (_ :: _) [] _) _ _ _ _); (with_reducible refine' ej_bm PySem.F.plainAttrs_list PySem.F.slot_list_extend PySem.F.type_list_extend ?_ ?h1 ?h2 ?h3 ?h4 ?h5); (case h1 => rfl); (case h2 => rfl); (case h3 => rfl); (case h4 => rfl); (case h5 => rfl))
  | ((with_reducible show EJ _ (Expr.Call (Expr.Attribute _ (Str.ofString "pop") _) (_ :: _) [] _) _ _ _ _); (with_reducible refine' ej_bm PySem.F.plainAttrs_list PySem.F.slot_list_pop PySem.F.type_list_pop ?_ ?h1 ?h2 ?h3 ?h4 ?h5); (case h1 => rfl); (case h2 => rfl); (case h3 => rfl); (case h4 => rfl); (case h5 => rfl))
  | ((with_reducible show EJ _ (Expr.Call (Expr.Attribute _ (Str.ofString "pop") _) [] [] _) _ _ _ _); (with_reducible refine' ej_bm0 PySem.F.plainAttrs_list PySem.F.slot_list_pop PySem.F.type_list_pop ?_ ?h1 ?h2); (case h1 => rfl); (case h2 => rfl))
  | ((with_reducible show EJ _ (Expr.Call (Expr.Attribute _ (Str.ofString "reverse") _) [] [] _) _ _ _ _); (with_reducible refine' ej_bm0 PySem.F.plainAttrs_list PySem.F.slot_list_reverse PySem.F.type_list_reverse ?_ ?h1 ?h2); (case h1 => rfl); (case h2 => rfl))
  | ((with_reducible show EJ _ (Expr.Call (Expr.Attribute _ (Str.ofString "clear") _) [] [] _) _ _ _ _); (with_reducible refine' ej_bm0 PySem.F.plainAttrs_list PySem.F.slot_list_clear PySem.F.type_list_clear ?_ ?h1 ?h2); (case h1 => rfl); (case h2 => rfl))
  | ((with_reducible show EJ _ (Expr.Call (Expr.Attribute _ (Str.ofString "index") _) (_ :: _) [] _) _ _ _ _); (with_reducible refine' ej_bm PySem.F.plainAttrs_list PySem.F.slot_list_index PySem.F.type_list_index ?_ ?h1 ?h2 ?h3 ?h4 ?h5); (case h1 => rfl); (case h2 => rfl); (case h3 => rfl); (case h4 => rfl); (case h5 => rfl))
  | ((with_reducible show HasTy _ _ (D.raw _) _ ∧ _); first | refine ⟨ty_own 0 rfl, ?_⟩ | refine ⟨ty_own 1 rfl, ?_⟩ | refine ⟨ty_own 2 rfl, ?_⟩)
  | ((with_reducible show HasTy _ _ (D.lst _) _ ∧ _); refine ⟨ty_lst, ?_⟩))
local macro_rules | `(tactic| wtm_at "sl a") => `(tactic| first
  | ((with_reducible show AJ _ [] _ _ _ _); refine aj_nil ?_)
  | ((with_reducible show AJ _ (_ :: _) _ _ _ _); (with_reducible refine' aj_cons ?_ ?h1); (case h1 => rfl)))
local macro_rules | `(tactic| wtm_at "sl t") => `(tactic| first
  | ((with_reducible show TJ _ (Expr.UnaryOp UnaryOp.Not _ _) _ _ _ _); refine tj_not ?_)
  | ((with_reducible show TJ _ (Expr.BoolOp _ _ _) _ _ _ _); refine tjs_of ?_)
  | ((with_reducible show TJ _ (Expr.Compare _ [_] _ _) _ _ _ _); (with_reducible refine' tj_cmp ?_ ?h1); (case h1 => first | exact nomark _ | rfl))
  | ((with_reducible show TJ _ (Expr.Compare _ [_, _] _ _) _ _ _ _); (with_reducible refine' tj_chain ?_ ?h1); (case h1 => rfl))
  | ((with_reducible show TJ _ (_) _ _ _ _); (with_reducible refine' tj_b ?_ ?h1); (case h1 => intro _; rfl))
  | ((with_reducible show TJs _ BoolOp.And (_ :: _ :: _) _ _ _ _ _); refine tjs_and ?_)
  | ((with_reducible show TJs _ BoolOp.Or (_ :: _ :: _) _ _ _ _ _); refine tjs_or ?_)
  | ((with_reducible show TJs _ _ [_] _ _ _ _ _); refine tjs_one ?_))
local macro_rules | `(tactic| wtm_at "sl s") => `(tactic| first
  | ((with_reducible show SJ _ [] _ _ _); refine sj_nil ?_)
  | ((with_reducible show SJ _ (Stmt.Return (some _) _ :: _) _ _ _); refine sj_cons (s1_ret ?_))
  | ((with_reducible show SJ _ (Stmt.Return none _ :: _) _ _ _); refine sj_cons (s1_retN ?_))
  | ((with_reducible show SJ _ (Stmt.If _ _ _ _ :: _) _ _ _); refine sj_cons (s1_if ?_))
  | ((with_reducible show SJ _ (Stmt.Pass _ :: _) _ _ _); refine sj_cons (s1_pass ?_))
  | ((with_reducible show SJ _ (Stmt.Break _ :: _) _ _ _); refine sj_cons (s1_break ?_))
  | ((with_reducible show SJ _ (Stmt.Continue _ :: _) _ _ _); refine sj_cons (s1_cont ?_))
  | ((with_reducible show SJ _ (Stmt.Assign [Expr.Subscript _ _ _] _ _ :: _) _ _ _); (with_reducible refine' sj_cons (s1_setI ?_ ?h1 ?h2 ?h3 ?h4)); (case h1 => intro _; rfl); (case h2 => rfl); (case h3 => rfl); (case h4 => rfl))
  | ((with_reducible show SJ _ (Stmt.Expr _ _ :: _) _ _ _); refine sj_cons (s1_expr ?_))
  | ((with_reducible show SJ _ (Stmt.Raise _ _ _ :: _) _ _ _); (with_reducible refine' sj_cons (s1_rs ?h0 ?h1 ?h2 ?h3 ?h4 ?_ ?h5 ?h6)); (case h0 => with_reducible assumption); (case h1 => with_reducible assumption); (case h2 => kernel_rfl); (case h3 => kernel_rfl); (case h4 => kernel_rfl); (case h5 => rfl); (case h6 => rfl))
  | ((with_reducible show SJ _ (Stmt.Assign [Expr.Name _ _] _ _ :: _) _ _ _); (with_reducible refine' sj_cons (s1_nm ?h0 ?h1 ?h2 ?h3 ?h4 ?_ ?h5)); (case h0 => with_reducible assumption); (case h1 => with_reducible assumption); (case h2 => kernel_rfl); (case h3 => kernel_rfl); (case h4 => kernel_rfl); (case h5 => rfl))
  | ((with_reducible show SJ _ (Stmt.AugAssign (Expr.Name _ _) _ _ _ :: _) _ _ _); (with_reducible refine' sj_cons (s1_ag ?h0 ?h1 ?h2 ?h3 ?h4 ?h5 ?_)); (case h0 => with_reducible assumption); (case h1 => with_reducible assumption); (case h2 => kernel_rfl); (case h3 => kernel_rfl); (case h4 => kernel_rfl); (case h5 => rfl))
  | ((with_reducible show SJ _ (Stmt.Assign [Expr.Tuple _ _ _] (Expr.Call _ _ _ _) _ :: _) _ _ _); (with_reducible refine' sj_cons (s1_asg ?_ ?h1 ?h2 ?h3)); (case h1 => rfl); (case h2 => rfl); (case h3 => rfl))
  | ((with_reducible show SJ _ (Stmt.Assign [Expr.Tuple [Expr.Name _ _, Expr.Name _ _] _ _] (Expr.Tuple [_, _] _ _) _ :: _) _ _ _); (with_reducible refine' sj_cons (s1_pr ?h0 ?h1 ?h2 ?h3 ?h4 ?h5 ?h6 ?h7 ?_ ?h8 ?h9)); (case h0 => with_reducible assumption); (case h1 => with_reducible assumption); (case h2 => with_reducible assumption); (case h3 => kernel_rfl); (case h4 => kernel_rfl); (case h5 => decide); (case h6 => kernel_rfl); (case h7 => kernel_rfl); (case h8 => rfl); (case h9 => rfl)))
local macro_rules | `(tactic| wtm_at "sl g") => `(tactic| first
  | ((with_reducible show GJ _ (Expr.Name _ _) _ _ _ _ _); (with_reducible refine' gj_nm ?h0 ?h1 ?h2 ?h3 ?h4 ?_); (case h0 => with_reducible assumption); (case h1 => with_reducible assumption); (case h2 => kernel_rfl); (case h3 => kernel_rfl); (case h4 => kernel_rfl))
  | ((with_reducible show GJ _ (Expr.Tuple [Expr.Name _ _, Expr.Name _ _] _ _) _ _ _ _ _); (with_reducible refine' gj_tp2 ?h0 ?h1 ?h2 ?h3 ?h4 ?h5 ?h6 ?h7 ?h8 ?_); (case h0 => with_reducible assumption); (case h1 => with_reducible assumption); (case h2 => with_reducible assumption); (case h3 => kernel_rfl); (case h4 => kernel_rfl); (case h5 => kernel_rfl); (case h6 => kernel_rfl); (case h7 => kernel_rfl); (case h8 => kernel_rfl))
  | ((with_reducible show GJ _ (Expr.Tuple [Expr.Name _ _, Expr.Name _ _, Expr.Name _ _] _ _) _ _ _ _ _); (with_reducible refine' gj_tp3 ?h0 ?h1 ?h2 ?h3 ?h4 ?h5 ?h6 ?h7 ?h8 ?h9 ?i0 ?i1 ?i2 ?_); (case h0 => with_reducible assumption); (case h1 => with_reducible assumption); (case h2 => with_reducible assumption); (case h3 => with_reducible assumption); (case h4 => kernel_rfl); (case h5 => kernel_rfl); (case h6 => kernel_rfl); (case h7 => kernel_rfl); (case h8 => kernel_rfl); (case h9 => kernel_rfl); (case i0 => kernel_rfl); (case i1 => kernel_rfl); (case i2 => kernel_rfl))
  | ((with_reducible show GJ _ (Expr.Tuple _ _ _) _ _ _ _ _); (with_reducible refine' gj_tp ?h0 ?_ ?h1 ?h2 ?h3); (case h0 => with_reducible assumption); (case h1 => rfl); (case h2 => rfl); (case h3 => rfl))
  | ((with_reducible show GsJ _ (_ :: _) _ _ _ _ _); (with_reducible refine' gsj_cons ?_ ?h1); (case h1 => rfl))
  | ((with_reducible show GsJ _ [] _ _ _ _ _); refine gsj_nil ?_))
local macro_rules | `(tactic| wtm_at "sl i") => `(tactic| first
  | ((with_reducible show IJ _ _ (Expr.Name _ _) _ _ _ _); (with_reducible refine' ij_nm ?h0 ?h1 ?h2 ?h3 ?h4 ?h5 ?h6 ?_); (case h0 => with_reducible assumption); (case h1 => with_reducible assumption); (case h2 => kernel_rfl); (case h3 => kernel_rfl); (case h4 => rfl); (case h5 => kernel_rfl); (case h6 => first | assumption | exact .inl rfl | exact .inr (.inl rfl) | exact .inr (.inr rfl)))
  | ((with_reducible show IJ _ _ (Expr.Call (Expr.Name (Str.ofString "enumerate") _) [_] [] _) _ _ _ _); (with_reducible refine' ij_en ?h0 ?h1 ?h2 ?_ ?h3); (case h0 => with_reducible assumption); (case h1 => with_reducible assumption); (case h2 => kernel_rfl); (case h3 => rfl))
  | ((with_reducible show IJ _ _ (Expr.Call (Expr.Name (Str.ofString "range") _) [_] [] _) _ _ _ _); (with_reducible refine' ij_r1 ?h0 ?h1 ?h2 ?_ ?h3); (case h0 => with_reducible assumption); (case h1 => with_reducible assumption); (case h2 => kernel_rfl); (case h3 => rfl))
  | ((with_reducible show IJ _ _ (Expr.Call (Expr.Name (Str.ofString "range") _) [_, _] [] _) _ _ _ _); (with_reducible refine' ij_r2 ?h0 ?h1 ?h2 ?_ ?h3 ?h4); (case h0 => with_reducible assumption); (case h1 => with_reducible assumption); (case h2 => kernel_rfl); (case h3 => rfl); (case h4 => rfl))
  | ((with_reducible show IJ _ _ (Expr.Call (Expr.Name (Str.ofString "zip") _) [_, _] [] _) _ _ _ _); (with_reducible refine' ij_zp ?h0 ?h1 ?h2 ?_ ?h3 ?h4); (case h0 => with_reducible assumption); (case h1 => with_reducible assumption); (case h2 => kernel_rfl); (case h3 => rfl); (case h4 => rfl)))
local macro_rules | `(tactic| wtm_at "sl o") => `(tactic| first
  | ((with_reducible show OpD _ (binaryOp Operator.Add) (D.int _) (D.int _) _ _); refine od_add ?_)
  | ((with_reducible show OpD _ (inplaceOp Operator.Add) (D.int _) (D.int _) _ _); refine oi_add ?_)
  | ((with_reducible show OpD _ (binaryOp Operator.Sub) (D.int _) (D.int _) _ _); refine od_sub ?_)
  | ((with_reducible show OpD _ (inplaceOp Operator.Sub) (D.int _) (D.int _) _ _); refine oi_sub ?_)
  | ((with_reducible show OpD _ (binaryOp Operator.Mult) (D.int _) (D.int _) _ _); refine od_mulC (by first | exact .inl ⟨by omega, by omega⟩ | exact .inr ⟨by omega, by omega⟩) ?_)
  | ((with_reducible show OpD _ (binaryOp Operator.Pow) (D.int 10) (D.int 9) _ _); refine od_p9 ?_)
  | ((with_reducible show OpD _ (binaryOp Operator.Pow) (D.int 10) (D.int 12) _ _); refine od_p12 ?_)
  | ((with_reducible show OpD _ (binaryOp Operator.Pow) (D.int 10) (D.int 18) _ _); refine od_p18 ?_)
  | ((with_reducible show OpD _ (binaryOp Operator.Pow) (D.int 10) (D.int 20) _ _); refine od_p20 ?_)
  | ((with_reducible show OpD _ (compareOp CmpOp.Lt) (D.int _) (D.int _) _ _); refine od_lt ?_)
  | ((with_reducible show OpD _ (compareOp CmpOp.LtE) (D.int _) (D.int _) _ _); refine od_le ?_)
  | ((with_reducible show OpD _ (compareOp CmpOp.Gt) (D.int _) (D.int _) _ _); refine od_gt ?_)
  | ((with_reducible show OpD _ (compareOp CmpOp.GtE) (D.int _) (D.int _) _ _); refine od_ge ?_)
  | ((with_reducible show OpD _ (compareOp CmpOp.Eq) (D.int _) (D.int _) _ _); refine od_eqI ?_)
  | ((with_reducible show OpD _ (compareOp CmpOp.NotEq) (D.int _) (D.int _) _ _); refine od_neI ?_)
  | ((with_reducible show OpD _ (compareOp CmpOp.Eq) (D.str _) (D.str _) _ _); refine od_eqS ?_)
  | ((with_reducible show UnD _ _ (D.int _) _ _); refine ud_neg ?_)
  | ((with_reducible show ClD _ (Value.builtin "len") [D.lst _] _ _); refine cd_len_lst ?_)
  | ((with_reducible show ClD _ (Value.builtin "len") [D.tup _] _ _); refine cd_len_tup ?_)
  | ((with_reducible show ClD _ (Value.builtin "len") [D.fz _] _ _); refine cd_len_fz ?_)
  | ((with_reducible show ClD _ (Value.type "int") [D.int _] _ _); refine cd_intI ?_)
  | ((with_reducible show ClD _ (Value.type "int") [D.bl _] _ _); refine cd_intB ?_)
  | ((with_reducible show ClD _ (Value.builtin "isinstance") [_, D.ty _] _ _); (with_reducible refine' cd_isi ?h1 ?h2 ?_); (case h1 => first | assumption | rfl); (case h2 => decide))
  | ((with_reducible show ClD _ (Value.builtin "isinstance") [_, D.tup [D.ty _, D.ty _]] _ _); (with_reducible refine' cd_isi2 ?h1 ?h2 ?h3 ?_); (case h1 => first | assumption | rfl); (case h2 => decide); (case h3 => decide)))
local macro_rules | `(tactic| wtm_at "sl v") => `(tactic| first
  | ((with_reducible show OpD _ (binaryOp Operator.Mod) (D.int _) (D.int _) _ _); refine od_modV (by omega) fun r h0 h1 => ?_)
  | ((with_reducible show OpD _ (binaryOp Operator.FloorDiv) (D.int _) (D.int _) _ _); refine od_div (divOk_le (by omega) (by omega)) ?_))
local macro_rules | `(tactic| wtm_at "sl m") => `(tactic| first
  | ((with_reducible show IxD _ (D.raw _) (D.int _) _ _); first | refine id_own 0 rfl rfl ?_ | refine id_own 1 rfl rfl ?_ | refine id_own 2 rfl rfl ?_)
  | ((with_reducible show if true = true then _ else _); refine ite_t ?_)
  | ((with_reducible show if (!false) = true then _ else _); refine ite_nf ?_)
  | ((with_reducible show if (!true) = true then _ else _); refine ite_nt ?_)
  | ((with_reducible show if false = true then _ else _); refine ite_f ?_)
  | ((with_reducible show ∃ k, D.bl _ = D.bl k ∧ _); refine ⟨_, rfl, ?_⟩)
  | ((with_reducible show ∃ i, D.int _ = D.int i ∧ _); refine ⟨_, rfl, ?_⟩)
  | ((with_reducible show OJ _ none _ _ _ _); refine oj_none ?_)
  | ((with_reducible show OJ _ (some _) _ _ _ _); refine oj_some ?_)
  | ((with_reducible show SlD _ (D.lst _) _ _ _ _); refine sd_lst ?_)
  | ((with_reducible show SlD _ (D.fz _) _ _ _ _); refine sd_fz ?_)
  | ((with_reducible show SlD _ (D.tup _) _ _ _ _); refine sd_tup ?_)
  | ((with_reducible show List.length _ ≤ 100000 ∧ _); refine ⟨Nat.le_of_ble_eq_true rfl, ?_⟩))
local macro_rules | `(tactic| wtm_at "sl") => `(tactic| repeat (first | wtm_at "sl e" | wtm_at "sl a" | wtm_at "sl b" | wtm_at "sl f" | wtm_at "sl o" | wtm_at "sl t" | wtm_at "sl s" | wtm_at "sl m" | wtm_at "sl g" | wtm_at "sl i"))
local macro_rules | `(tactic| wtm_at "slv") => `(tactic| repeat (first | wtm_at "sl e" | wtm_at "sl a" | wtm_at "sl b" | wtm_at "sl f" | wtm_at "sl v" | wtm_at "sl o" | wtm_at "sl t" | wtm_at "sl s" | wtm_at "sl m" | wtm_at "sl g" | wtm_at "sl i"))
local macro_rules | `(tactic| wtm_at "sl in") => `(tactic| conv => arg 2; whnf)
local macro_rules | `(tactic| wtm_at "sl r0") => `(tactic| refine ⟨[], List.nil_sublist _, rfl, ?_⟩)
def pw : Program := PySem.Challenge.pw_splitclimb_k33_choices_by_rules
def top (i : Nat) : Stmt := pw.main.body.getD i (.Pass ⟨0, 0, 0, 0⟩)
def mem (st : Stmt) (j : Nat) : Stmt := match st with
  | .ClassDef _ _ _ b _ _ _ _ _ _ _ => b.getD j (.Pass ⟨0, 0, 0, 0⟩)
  | s => s
abbrev s__wall : Stmt := top 0
abbrev p__wall : List Str := ["k"]
abbrev n__wall : List Str := ["k"]
theorem nms__wall : Nm 0 "k" ∧ True := ⟨trivial, trivial⟩
theorem sc__wall : FnScope n__wall p__wall (defScope s__wall) := ⟨rfl, rfl, rfl, by decide +kernel, rfl, by decide +kernel, by decide +kernel⟩
abbrev s_is_integer : Stmt := top 11
abbrev p_is_integer : List Str := ["value"]
abbrev n_is_integer : List Str := ["value"]
theorem nms_is_integer : Nm 0 "value" ∧ True := ⟨trivial, trivial⟩
theorem sc_is_integer : FnScope n_is_integer p_is_integer (defScope s_is_integer) := ⟨rfl, rfl, rfl, by decide +kernel, rfl, by decide +kernel, by decide +kernel⟩
abbrev s_is_at_least : Stmt := top 12
abbrev p_is_at_least : List Str := ["value", "low"]
abbrev n_is_at_least : List Str := ["value", "low"]
theorem nms_is_at_least : Nm 0 "value" ∧ Nm 1 "low" ∧ True := ⟨trivial, trivial, trivial⟩
theorem sc_is_at_least : FnScope n_is_at_least p_is_at_least (defScope s_is_at_least) := ⟨rfl, rfl, rfl, by decide +kernel, rfl, by decide +kernel, by decide +kernel⟩
abbrev s_require_schedule : Stmt := top 16
abbrev p_require_schedule : List Str := ["schedule"]
abbrev n_require_schedule : List Str := ["schedule", "index", "entry"]
theorem nms_require_schedule : Nm 0 "schedule" ∧ Nm 1 "index" ∧ Nm 2 "entry" ∧ True := ⟨trivial, trivial, trivial, trivial⟩
theorem sc_require_schedule : FnScope n_require_schedule p_require_schedule (defScope s_require_schedule) := ⟨rfl, rfl, rfl, by decide +kernel, rfl, by decide +kernel, by decide +kernel⟩
abbrev s_require_rounds : Stmt := top 17
abbrev p_require_rounds : List Str := ["schedule"]
abbrev n_require_rounds : List Str := ["schedule"]
theorem nms_require_rounds : Nm 0 "schedule" ∧ True := ⟨trivial, trivial⟩
theorem sc_require_rounds : FnScope n_require_rounds p_require_rounds (defScope s_require_rounds) := ⟨rfl, rfl, rfl, by decide +kernel, rfl, by decide +kernel, by decide +kernel⟩
abbrev s_is_group : Stmt := top 18
abbrev p_is_group : List Str := ["value", "length"]
abbrev n_is_group : List Str := ["value", "length", "entry"]
theorem nms_is_group : Nm 0 "value" ∧ Nm 1 "length" ∧ Nm 2 "entry" ∧ True := ⟨trivial, trivial, trivial, trivial⟩
theorem sc_is_group : FnScope n_is_group p_is_group (defScope s_is_group) := ⟨rfl, rfl, rfl, by decide +kernel, rfl, by decide +kernel, by decide +kernel⟩
abbrev s_require_counts : Stmt := top 19
abbrev p_require_counts : List Str := ["counts"]
abbrev n_require_counts : List Str := ["counts"]
theorem nms_require_counts : Nm 0 "counts" ∧ True := ⟨trivial, trivial⟩
theorem sc_require_counts : FnScope n_require_counts p_require_counts (defScope s_require_counts) := ⟨rfl, rfl, rfl, by decide +kernel, rfl, by decide +kernel, by decide +kernel⟩
abbrev s_require_small_round : Stmt := top 20
abbrev p_require_small_round : List Str := ["schedule"]
abbrev n_require_small_round : List Str := ["schedule"]
theorem nms_require_small_round : Nm 0 "schedule" ∧ True := ⟨trivial, trivial⟩
theorem sc_require_small_round : FnScope n_require_small_round p_require_small_round (defScope s_require_small_round) := ⟨rfl, rfl, rfl, by decide +kernel, rfl, by decide +kernel, by decide +kernel⟩
abbrev s_require_split : Stmt := top 21
abbrev p_require_split : List Str := ["schedule", "counts", "split"]
abbrev n_require_split : List Str := ["schedule", "counts", "split", "index", "group"]
theorem nms_require_split : Nm 0 "schedule" ∧ Nm 1 "counts" ∧ Nm 2 "split" ∧ Nm 3 "index" ∧ Nm 4 "group" ∧ True := ⟨trivial, trivial, trivial, trivial, trivial, trivial⟩
theorem sc_require_split : FnScope n_require_split p_require_split (defScope s_require_split) := ⟨rfl, rfl, rfl, by decide +kernel, rfl, by decide +kernel, by decide +kernel⟩
abbrev s_products : Stmt := top 22
abbrev p_products : List Str := ["schedule"]
abbrev n_products : List Str := ["schedule", "found", "entry"]
theorem nms_products : Nm 0 "schedule" ∧ Nm 1 "found" ∧ Nm 2 "entry" ∧ True := ⟨trivial, trivial, trivial, trivial⟩
theorem sc_products : FnScope n_products p_products (defScope s_products) := ⟨rfl, rfl, rfl, by decide +kernel, rfl, by decide +kernel, by decide +kernel⟩
abbrev s_scaled_weight : Stmt := top 23
abbrev p_scaled_weight : List Str := ["schedule", "counts"]
abbrev n_scaled_weight : List Str := ["schedule", "counts", "found", "count", "product"]
theorem nms_scaled_weight : Nm 0 "schedule" ∧ Nm 1 "counts" ∧ Nm 2 "found" ∧ Nm 3 "count" ∧ Nm 4 "product" ∧ True := ⟨trivial, trivial, trivial, trivial, trivial, trivial⟩
theorem sc_scaled_weight : FnScope n_scaled_weight p_scaled_weight (defScope s_scaled_weight) := ⟨rfl, rfl, rfl, by decide +kernel, rfl, by decide +kernel, by decide +kernel⟩
abbrev s_group_weights : Stmt := top 25
abbrev p_group_weights : List Str := ["schedule", "split"]
abbrev n_group_weights : List Str := ["schedule", "split", "group"]
theorem nms_group_weights : Nm 0 "schedule" ∧ Nm 1 "split" ∧ Nm 2 "group" ∧ True := ⟨trivial, trivial, trivial, trivial⟩
theorem sc_group_weights : FnScope n_group_weights p_group_weights (defScope s_group_weights) := ⟨rfl, rfl, rfl, by decide +kernel, rfl, by decide +kernel, by decide +kernel⟩
abbrev s_lightest_group : Stmt := top 26
abbrev p_lightest_group : List Str := ["schedule", "counts", "split"]
abbrev n_lightest_group : List Str := ["schedule", "counts", "split", "weights"]
theorem nms_lightest_group : Nm 0 "schedule" ∧ Nm 1 "counts" ∧ Nm 2 "split" ∧ Nm 3 "weights" ∧ True := ⟨trivial, trivial, trivial, trivial, trivial⟩
theorem sc_lightest_group : FnScope n_lightest_group p_lightest_group (defScope s_lightest_group) := ⟨rfl, rfl, rfl, by decide +kernel, rfl, by decide +kernel, by decide +kernel⟩
abbrev s_heaviest_group : Stmt := top 27
abbrev p_heaviest_group : List Str := ["schedule", "counts", "split"]
abbrev n_heaviest_group : List Str := ["schedule", "counts", "split", "weights"]
theorem nms_heaviest_group : Nm 0 "schedule" ∧ Nm 1 "counts" ∧ Nm 2 "split" ∧ Nm 3 "weights" ∧ True := ⟨trivial, trivial, trivial, trivial, trivial⟩
theorem sc_heaviest_group : FnScope n_heaviest_group p_heaviest_group (defScope s_heaviest_group) := ⟨rfl, rfl, rfl, by decide +kernel, rfl, by decide +kernel, by decide +kernel⟩
abbrev s_is_word : Stmt := top 31
abbrev p_is_word : List Str := ["value", "words"]
abbrev n_is_word : List Str := ["value", "words"]
theorem nms_is_word : Nm 0 "value" ∧ Nm 1 "words" ∧ True := ⟨trivial, trivial, trivial⟩
theorem sc_is_word : FnScope n_is_word p_is_word (defScope s_is_word) := ⟨rfl, rfl, rfl, by decide +kernel, rfl, by decide +kernel, by decide +kernel⟩
abbrev s_is_sequence : Stmt := top 32
abbrev p_is_sequence : List Str := ["value"]
abbrev n_is_sequence : List Str := ["value"]
theorem nms_is_sequence : Nm 0 "value" ∧ True := ⟨trivial, trivial⟩
theorem sc_is_sequence : FnScope n_is_sequence p_is_sequence (defScope s_is_sequence) := ⟨rfl, rfl, rfl, by decide +kernel, rfl, by decide +kernel, by decide +kernel⟩
abbrev s_l_cell_at : Stmt := top 35
abbrev p_l_cell_at : List Str := ["_law_script", "_law_k"]
abbrev n_l_cell_at : List Str := ["_law_script", "_law_k"]
theorem nms_l_cell_at : Nm 0 "_law_script" ∧ Nm 1 "_law_k" ∧ True := ⟨trivial, trivial, trivial⟩
theorem sc_l_cell_at : FnScope n_l_cell_at p_l_cell_at (defScope s_l_cell_at) := ⟨rfl, rfl, rfl, by decide +kernel, rfl, by decide +kernel, by decide +kernel⟩
abbrev s_l_source : Stmt := top 36
abbrev p_l_source : List Str := ["_law_cell"]
abbrev n_l_source : List Str := ["_law_cell"]
theorem nms_l_source : Nm 0 "_law_cell" ∧ True := ⟨trivial, trivial⟩
theorem sc_l_source : FnScope n_l_source p_l_source (defScope s_l_source) := ⟨rfl, rfl, rfl, by decide +kernel, rfl, by decide +kernel, by decide +kernel⟩
abbrev s_l_take : Stmt := top 37
abbrev p_l_take : List Str := ["_law_source_here", "_law_bound"]
abbrev n_l_take : List Str := ["_law_source_here", "_law_bound", "_law_digit", "_law_mixed"]
theorem nms_l_take : Nm 0 "_law_source_here" ∧ Nm 1 "_law_bound" ∧ Nm 2 "_law_digit" ∧ Nm 3 "_law_mixed" ∧ True := ⟨trivial, trivial, trivial, trivial, trivial⟩
theorem sc_l_take : FnScope n_l_take p_l_take (defScope s_l_take) := ⟨rfl, rfl, rfl, by decide +kernel, rfl, by decide +kernel, by decide +kernel⟩
abbrev s_l_pick : Stmt := top 38
abbrev p_l_pick : List Str := ["_law_source_here", "_law_items"]
abbrev n_l_pick : List Str := ["_law_source_here", "_law_items"]
theorem nms_l_pick : Nm 0 "_law_source_here" ∧ Nm 1 "_law_items" ∧ True := ⟨trivial, trivial, trivial⟩
theorem sc_l_pick : FnScope n_l_pick p_l_pick (defScope s_l_pick) := ⟨rfl, rfl, rfl, by decide +kernel, rfl, by decide +kernel, by decide +kernel⟩
abbrev s_l_shuffled : Stmt := top 39
abbrev p_l_shuffled : List Str := ["_law_source_here", "_law_items"]
abbrev n_l_shuffled : List Str := ["_law_source_here", "_law_items", "_law_pool", "_law_result"]
theorem nms_l_shuffled : Nm 0 "_law_source_here" ∧ Nm 1 "_law_items" ∧ Nm 2 "_law_pool" ∧ Nm 3 "_law_result" ∧ True := ⟨trivial, trivial, trivial, trivial, trivial⟩
theorem sc_l_shuffled : FnScope n_l_shuffled p_l_shuffled (defScope s_l_shuffled) := ⟨rfl, rfl, rfl, by decide +kernel, rfl, by decide +kernel, by decide +kernel⟩
abbrev s_l_rounds : Stmt := top 40
abbrev p_l_rounds : List Str := ["_law_source_here", "_law_most"]
abbrev n_l_rounds : List Str := ["_law_source_here", "_law_most", "_law_result", "_law_k"]
theorem nms_l_rounds : Nm 0 "_law_source_here" ∧ Nm 1 "_law_most" ∧ Nm 2 "_law_result" ∧ Nm 3 "_law_k" ∧ True := ⟨trivial, trivial, trivial, trivial, trivial⟩
theorem sc_l_rounds : FnScope n_l_rounds p_l_rounds (defScope s_l_rounds) := ⟨rfl, rfl, rfl, by decide +kernel, rfl, by decide +kernel, by decide +kernel⟩
abbrev s_l_crowd : Stmt := top 41
abbrev p_l_crowd : List Str := ["_law_source_here", "_law_length", "_law_wide"]
abbrev n_l_crowd : List Str := ["_law_source_here", "_law_length", "_law_wide", "_law_k"]
theorem nms_l_crowd : Nm 0 "_law_source_here" ∧ Nm 1 "_law_length" ∧ Nm 2 "_law_wide" ∧ Nm 3 "_law_k" ∧ True := ⟨trivial, trivial, trivial, trivial, trivial⟩
theorem sc_l_crowd : FnScope n_l_crowd p_l_crowd (defScope s_l_crowd) := ⟨rfl, rfl, rfl, by decide +kernel, rfl, by decide +kernel, by decide +kernel⟩
abbrev s_l_shares : Stmt := top 42
abbrev p_l_shares : List Str := ["_law_rounds_here"]
abbrev n_l_shares : List Str := ["_law_rounds_here", "_law_result", "_law_total", "_law_entry"]
theorem nms_l_shares : Nm 0 "_law_rounds_here" ∧ Nm 1 "_law_result" ∧ Nm 2 "_law_total" ∧ Nm 3 "_law_entry" ∧ True := ⟨trivial, trivial, trivial, trivial, trivial⟩
theorem sc_l_shares : FnScope n_l_shares p_l_shares (defScope s_l_shares) := ⟨rfl, rfl, rfl, by decide +kernel, rfl, by decide +kernel, by decide +kernel⟩
abbrev s_l_scaled : Stmt := top 43
abbrev p_l_scaled : List Str := ["_law_rounds_here", "_law_crowd_here"]
abbrev n_l_scaled : List Str := ["_law_rounds_here", "_law_crowd_here", "_law_parts_here", "_law_whole", "_law_count_here", "_law_part"]
theorem nms_l_scaled : Nm 0 "_law_rounds_here" ∧ Nm 1 "_law_crowd_here" ∧ Nm 2 "_law_parts_here" ∧ Nm 3 "_law_whole" ∧ Nm 4 "_law_count_here" ∧ Nm 5 "_law_part" ∧ True := ⟨trivial, trivial, trivial, trivial, trivial, trivial, trivial⟩
theorem sc_l_scaled : FnScope n_l_scaled p_l_scaled (defScope s_l_scaled) := ⟨rfl, rfl, rfl, by decide +kernel, rfl, by decide +kernel, by decide +kernel⟩
abbrev s_l_path : Stmt := top 44
abbrev p_l_path : List Str := ["_law_source_here", "_law_rounds_here"]
abbrev n_l_path : List Str := ["_law_source_here", "_law_rounds_here", "_law_entry"]
theorem nms_l_path : Nm 0 "_law_source_here" ∧ Nm 1 "_law_rounds_here" ∧ Nm 2 "_law_entry" ∧ True := ⟨trivial, trivial, trivial, trivial⟩
theorem sc_l_path : FnScope n_l_path p_l_path (defScope s_l_path) := ⟨rfl, rfl, rfl, by decide +kernel, rfl, by decide +kernel, by decide +kernel⟩
abbrev s_l_even : Stmt := top 45
abbrev p_l_even : List Str := ["_law_groups", "_law_crowd_here"]
abbrev n_l_even : List Str := ["_law_groups", "_law_crowd_here", "_law_result", "_law_number", "_law_count_here"]
theorem nms_l_even : Nm 0 "_law_groups" ∧ Nm 1 "_law_crowd_here" ∧ Nm 2 "_law_result" ∧ Nm 3 "_law_number" ∧ Nm 4 "_law_count_here" ∧ True := ⟨trivial, trivial, trivial, trivial, trivial, trivial⟩
theorem sc_l_even : FnScope n_l_even p_l_even (defScope s_l_even) := ⟨rfl, rfl, rfl, by decide +kernel, rfl, by decide +kernel, by decide +kernel⟩
abbrev s_l_parts : Stmt := top 46
abbrev p_l_parts : List Str := ["_law_source_here", "_law_groups", "_law_crowd_here"]
abbrev n_l_parts : List Str := ["_law_source_here", "_law_groups", "_law_crowd_here", "_law_columns", "_law_total", "_law_column", "_law_left", "_law_k"]
theorem nms_l_parts : Nm 0 "_law_source_here" ∧ Nm 1 "_law_groups" ∧ Nm 2 "_law_crowd_here" ∧ Nm 3 "_law_columns" ∧ Nm 4 "_law_total" ∧ Nm 5 "_law_column" ∧ Nm 6 "_law_left" ∧ Nm 7 "_law_k" ∧ True := ⟨trivial, trivial, trivial, trivial, trivial, trivial, trivial, trivial, trivial⟩
theorem sc_l_parts : FnScope n_l_parts p_l_parts (defScope s_l_parts) := ⟨rfl, rfl, rfl, by decide +kernel, rfl, by decide +kernel, by decide +kernel⟩
abbrev s_l_extreme : Stmt := top 47
abbrev p_l_extreme : List Str := ["_law_rounds_here", "_law_parts_here", "_law_is_lightest"]
abbrev n_l_extreme : List Str := ["_law_rounds_here", "_law_parts_here", "_law_is_lightest", "_law_worth", "_law_part"]
theorem nms_l_extreme : Nm 0 "_law_rounds_here" ∧ Nm 1 "_law_parts_here" ∧ Nm 2 "_law_is_lightest" ∧ Nm 3 "_law_worth" ∧ Nm 4 "_law_part" ∧ True := ⟨trivial, trivial, trivial, trivial, trivial, trivial⟩
theorem sc_l_extreme : FnScope n_l_extreme p_l_extreme (defScope s_l_extreme) := ⟨rfl, rfl, rfl, by decide +kernel, rfl, by decide +kernel, by decide +kernel⟩
abbrev s_l_list_right : Stmt := top 48
abbrev p_l_list_right : List Str := ["_law_source_here", "_law_rounds_here", "_law_crowd_here"]
abbrev n_l_list_right : List Str := ["_law_source_here", "_law_rounds_here", "_law_crowd_here", "_law_path_here", "_law_handed", "_law_chooser", "_law_other", "_law_k", "_law_parts_here"]
theorem nms_l_list_right : Nm 0 "_law_source_here" ∧ Nm 1 "_law_rounds_here" ∧ Nm 2 "_law_crowd_here" ∧ Nm 3 "_law_path_here" ∧ Nm 4 "_law_handed" ∧ Nm 5 "_law_chooser" ∧ Nm 6 "_law_other" ∧ Nm 7 "_law_k" ∧ Nm 8 "_law_parts_here" ∧ True := ⟨trivial, trivial, trivial, trivial, trivial, trivial, trivial, trivial, trivial, trivial⟩
theorem sc_l_list_right : FnScope n_l_list_right p_l_list_right (defScope s_l_list_right) := ⟨rfl, rfl, rfl, by decide +kernel, rfl, by decide +kernel, by decide +kernel⟩
abbrev s_law : Stmt := top 49
abbrev p_law : List Str := ["_law_script"]
abbrev n_law : List Str := ["_law_script", "_law_cell", "_law_source_here", "_law_rounds_here", "_law_crowd_here", "_law_lightest", "_law_heaviest", "_law_turn", "_law_parts_here", "_law_at"]
theorem nms_law : Nm 0 "_law_script" ∧ Nm 1 "_law_cell" ∧ Nm 2 "_law_source_here" ∧ Nm 3 "_law_rounds_here" ∧ Nm 4 "_law_crowd_here" ∧ Nm 5 "_law_lightest" ∧ Nm 6 "_law_heaviest" ∧ Nm 7 "_law_turn" ∧ Nm 8 "_law_parts_here" ∧ Nm 9 "_law_at" ∧ True := ⟨trivial, trivial, trivial, trivial, trivial, trivial, trivial, trivial, trivial, trivial, trivial⟩
theorem sc_law : FnScope n_law p_law (defScope s_law) := ⟨rfl, rfl, rfl, by decide +kernel, rfl, by decide +kernel, by decide +kernel⟩
abbrev s_InvalidSchedule___init__ : Stmt := mem (top 3) 0
abbrev p_InvalidSchedule___init__ : List Str := ["self", "index"]
abbrev n_InvalidSchedule___init__ : List Str := ["self", "index"]
theorem nms_InvalidSchedule___init__ : Nm 0 "self" ∧ Nm 1 "index" ∧ True := ⟨trivial, trivial, trivial⟩
theorem sc_InvalidSchedule___init__ : FnScope n_InvalidSchedule___init__ p_InvalidSchedule___init__ (defScope s_InvalidSchedule___init__) := ⟨rfl, rfl, rfl, by decide +kernel, rfl, by decide +kernel, by decide +kernel⟩
abbrev s_InvalidCounts___init__ : Stmt := mem (top 4) 0
abbrev p_InvalidCounts___init__ : List Str := ["self", "counts"]
abbrev n_InvalidCounts___init__ : List Str := ["self", "counts"]
theorem nms_InvalidCounts___init__ : Nm 0 "self" ∧ Nm 1 "counts" ∧ True := ⟨trivial, trivial, trivial⟩
theorem sc_InvalidCounts___init__ : FnScope n_InvalidCounts___init__ p_InvalidCounts___init__ (defScope s_InvalidCounts___init__) := ⟨rfl, rfl, rfl, by decide +kernel, rfl, by decide +kernel, by decide +kernel⟩
abbrev s_InvalidSplit___init__ : Stmt := mem (top 5) 0
abbrev p_InvalidSplit___init__ : List Str := ["self", "index"]
abbrev n_InvalidSplit___init__ : List Str := ["self", "index"]
theorem nms_InvalidSplit___init__ : Nm 0 "self" ∧ Nm 1 "index" ∧ True := ⟨trivial, trivial, trivial⟩
theorem sc_InvalidSplit___init__ : FnScope n_InvalidSplit___init__ p_InvalidSplit___init__ (defScope s_InvalidSplit___init__) := ⟨rfl, rfl, rfl, by decide +kernel, rfl, by decide +kernel, by decide +kernel⟩
abbrev s_InvalidGroup___init__ : Stmt := mem (top 6) 0
abbrev p_InvalidGroup___init__ : List Str := ["self", "group"]
abbrev n_InvalidGroup___init__ : List Str := ["self", "group"]
theorem nms_InvalidGroup___init__ : Nm 0 "self" ∧ Nm 1 "group" ∧ True := ⟨trivial, trivial, trivial⟩
theorem sc_InvalidGroup___init__ : FnScope n_InvalidGroup___init__ p_InvalidGroup___init__ (defScope s_InvalidGroup___init__) := ⟨rfl, rfl, rfl, by decide +kernel, rfl, by decide +kernel, by decide +kernel⟩
abbrev s_InvalidNumber___init__ : Stmt := mem (top 7) 0
abbrev p_InvalidNumber___init__ : List Str := ["self", "name"]
abbrev n_InvalidNumber___init__ : List Str := ["self", "name"]
theorem nms_InvalidNumber___init__ : Nm 0 "self" ∧ Nm 1 "name" ∧ True := ⟨trivial, trivial, trivial⟩
theorem sc_InvalidNumber___init__ : FnScope n_InvalidNumber___init__ p_InvalidNumber___init__ (defScope s_InvalidNumber___init__) := ⟨rfl, rfl, rfl, by decide +kernel, rfl, by decide +kernel, by decide +kernel⟩
abbrev s_InvalidStrategy___init__ : Stmt := mem (top 8) 0
abbrev p_InvalidStrategy___init__ : List Str := ["self", "strategy"]
abbrev n_InvalidStrategy___init__ : List Str := ["self", "strategy"]
theorem nms_InvalidStrategy___init__ : Nm 0 "self" ∧ Nm 1 "strategy" ∧ True := ⟨trivial, trivial, trivial⟩
theorem sc_InvalidStrategy___init__ : FnScope n_InvalidStrategy___init__ p_InvalidStrategy___init__ (defScope s_InvalidStrategy___init__) := ⟨rfl, rfl, rfl, by decide +kernel, rfl, by decide +kernel, by decide +kernel⟩
abbrev s_TooLarge___init__ : Stmt := mem (top 9) 0
abbrev p_TooLarge___init__ : List Str := ["self", "limit"]
abbrev n_TooLarge___init__ : List Str := ["self", "limit"]
theorem nms_TooLarge___init__ : Nm 0 "self" ∧ Nm 1 "limit" ∧ True := ⟨trivial, trivial, trivial⟩
theorem sc_TooLarge___init__ : FnScope n_TooLarge___init__ p_TooLarge___init__ (defScope s_TooLarge___init__) := ⟨rfl, rfl, rfl, by decide +kernel, rfl, by decide +kernel, by decide +kernel⟩
abbrev s_Chooser___init__ : Stmt := mem (top 33) 0
abbrev p_Chooser___init__ : List Str := ["self", "strategy"]
abbrev n_Chooser___init__ : List Str := ["self", "strategy", "is_list", "entry"]
theorem nms_Chooser___init__ : Nm 0 "self" ∧ Nm 1 "strategy" ∧ Nm 2 "is_list" ∧ Nm 3 "entry" ∧ True := ⟨trivial, trivial, trivial, trivial, trivial⟩
theorem sc_Chooser___init__ : FnScope n_Chooser___init__ p_Chooser___init__ (defScope s_Chooser___init__) := ⟨rfl, rfl, rfl, by decide +kernel, rfl, by decide +kernel, by decide +kernel⟩
abbrev s_Chooser_has_list : Stmt := mem (top 33) 1
abbrev p_Chooser_has_list : List Str := ["self"]
abbrev n_Chooser_has_list : List Str := ["self"]
theorem nms_Chooser_has_list : Nm 0 "self" ∧ True := ⟨trivial, trivial⟩
theorem sc_Chooser_has_list : FnScope n_Chooser_has_list p_Chooser_has_list (defScope s_Chooser_has_list) := ⟨rfl, rfl, rfl, by decide +kernel, rfl, by decide +kernel, by decide +kernel⟩
abbrev s_Chooser_fits : Stmt := mem (top 33) 2
abbrev p_Chooser_fits : List Str := ["self", "schedule"]
abbrev n_Chooser_fits : List Str := ["self", "schedule"]
theorem nms_Chooser_fits : Nm 0 "self" ∧ Nm 1 "schedule" ∧ True := ⟨trivial, trivial, trivial⟩
theorem sc_Chooser_fits : FnScope n_Chooser_fits p_Chooser_fits (defScope s_Chooser_fits) := ⟨rfl, rfl, rfl, by decide +kernel, rfl, by decide +kernel, by decide +kernel⟩
abbrev s_Chooser_next_choice : Stmt := mem (top 33) 3
abbrev p_Chooser_next_choice : List Str := ["self", "schedule", "counts", "split", "index"]
abbrev n_Chooser_next_choice : List Str := ["self", "schedule", "counts", "split", "index"]
theorem nms_Chooser_next_choice : Nm 0 "self" ∧ Nm 1 "schedule" ∧ Nm 2 "counts" ∧ Nm 3 "split" ∧ Nm 4 "index" ∧ True := ⟨trivial, trivial, trivial, trivial, trivial, trivial⟩
theorem sc_Chooser_next_choice : FnScope n_Chooser_next_choice p_Chooser_next_choice (defScope s_Chooser_next_choice) := ⟨rfl, rfl, rfl, by decide +kernel, rfl, by decide +kernel, by decide +kernel⟩
abbrev FnP (K : PySem.W.Frag) (x : Str) (st : Stmt) (f : Addr) (fd : FuncData) : Prop := FunD K x x (defArgs st) (defBody st) (defScope st) [] [] f fd
structure Bs (mg : Str → Option Value) : Prop where
  b1 : Bt mg "isinstance" "isinstance"
  b2 : Bt mg "len" "len"
  b3 : Bt mg "sum" "sum"
  b4 : Bt mg "all" "all"
  b5 : Bt mg "any" "any"
  b6 : Bt mg "max" "max"
  b7 : Bt mg "min" "min"
  b8 : Bt mg "abs" "abs"
  b9 : Bt mg "sorted" "sorted"
  b10 : Bt mg "repr" "repr"
  b11 : Bty mg "int" "int"
  b12 : Bty mg "list" "list"
  b13 : Bty mg "tuple" "tuple"
  b14 : Bty mg "str" "str"
  b15 : Bty mg "bool" "bool"
  b16 : Bty mg "range" "range"
  b17 : mg "enumerate" = none
  b18 : mg "zip" = none
  b19 : mg "reversed" = none
section
variable {X : Cx} {st : Sls} {M : Mem} {Q : DK} {E : EK} {P : Program} {w : World} {K : PySem.W.Frag} {mg : Str → Option Value} {base : Heap} {f : Addr} {fd : FuncData} {d e : D} {es : List D} {lo hi : Int} {i : Int}
/-! ### data -/
def D.isInt : D → Bool
  | .int _ => true
  | _ => false
def D.seq : D → Option (List D)
  | .lst es => some es
  | .fz es => some es
  | .tup es => some es
  | _ => none
def isFz (d : D) : Bool := match d with
  | .fz _ => true
  | _ => false
def atLeast (d : D) (lo : Int) : Bool := match d with
  | .int i => decide (lo ≤ i)
  | _ => false
def betw (d : D) (lo hi : Int) : Bool := match d with
  | .int i => decide (lo ≤ i) && decide (i ≤ hi)
  | _ => false
def D.kd : Nat → D → Prop
  | 0, d => ∃ n, d.tyN = some n
  | n + 1, d => (∃ n, d.tyN = some n) ∧ ∀ es, d.seq = some es → ∀ e ∈ es, D.kd n e
theorem D.kd.ty {n : Nat} (h : d.kd n) : ∃ m, d.tyN = some m := by
  cases n with
  | zero => exact h
  | succ n => exact h.1
theorem D.kd.down {n : Nat} (h : d.kd (n + 1)) (hs : d.seq = some es) : ∀ e ∈ es, e.kd n := h.2 es hs
theorem kd_int {n : Nat} : (D.int i).kd n := by
  cases n with
  | zero => exact ⟨_, rfl⟩
  | succ n => exact ⟨⟨_, rfl⟩, fun es h => nomatch h⟩
/-! ### is_integer, is_at_least, is_between -/
def cIsInt : Ct := Pc fun ds Q _ => ∃ d, ds = [d] ∧ d.kd 0 ∧ Q (.bl d.isInt)
theorem use_isInt (hn : d.kd 0) (q : Q (.bl d.isInt) M) : CtJ cIsInt 1 [d] st M Q E := ctj_p ⟨_, rfl, hn, q⟩
def cAtLeast : Ct := Pc fun ds Q _ => ∃ d lo, ds = [d, .int lo] ∧ d.kd 0 ∧ Q (.bl (atLeast d lo))
theorem use_atLeast (hn : d.kd 0) (q : Q (.bl (atLeast d lo)) M) : CtJ cAtLeast 2 [d, .int lo] st M Q E := ctj_p ⟨_, _, rfl, hn, q⟩
def cBetw : Ct := Pc fun ds Q _ => ∃ d lo hi, ds = [d, .int lo, .int hi] ∧ d.kd 0 ∧ Q (.bl (betw d lo hi))
theorem use_betw (hn : d.kd 0) (q : Q (.bl (betw d lo hi)) M) : CtJ cBetw 3 [d, .int lo, .int hi] st M Q E := ctj_p ⟨_, _, _, rfl, hn, q⟩
theorem isInt_false_ty {m : String} (h : d.tyN = some m) (hb : isN m "int" = false) : d.isInt = false := by
  cases d <;> first | rfl | (cases h; simp [isN] at hb)
theorem isInt_ty {m : String} (h : d.tyN = some m) (hb : isN m "int" = true) : d.isInt = !isN m "bool" := by
  cases d <;> cases h <;> simp_all [isN, D.isInt]
theorem not_int_atLeast (h : d.isInt = false) : atLeast d lo = false := by
  cases d <;> first | rfl | cases h
theorem not_int_betw (h : d.isInt = false) : betw d lo hi = false := by
  cases d <;> first | rfl | cases h
theorem isInt_ex (h : d.isInt = true) : ∃ i, d = .int i := by
  cases d <;> first | exact ⟨_, rfl⟩ | cases h
theorem f_is_integer (F : FunD K "is_integer" "is_integer" (defArgs s_is_integer) (defBody s_is_integer) (defScope s_is_integer) [] [] f fd) (B : Bs mg)  : FnOk P w K mg base (L2.CX P w) 1 f fd p_is_integer (spOf K 1 cIsInt) := by
  refine fn_rule F sc_is_integer fun X hX ds M Q E hl hc => ?_
  have cf := hX.cf sc_is_integer
  clear hX hl F
  obtain ⟨n0, _⟩ := nms_is_integer
  obtain ⟨b1, b2, b3, b4, b5, b6, b7, b8, b9, b10, b11, b12, b13, b14, b15, b16, b17, b18, b19⟩ := B
  refine body_p hc fun Q' E' ⟨d, e, hk, hq⟩ => ?_
  clear hc
  subst e
  wtm_at "sl in"
  obtain ⟨m, hm⟩ := hk
  wtm_at "sl"
  refine ite_b (fun h => ?_) (fun h => ?_)
  · wtm_at "sl"
    wtm_at "sl r0"
    rw [← isInt_ty hm h]
    exact hq
  · wtm_at "sl r0"
    rw [← isInt_false_ty hm h]
    exact hq
theorem f_is_at_least (F : FunD K "is_at_least" "is_at_least" (defArgs s_is_at_least) (defBody s_is_at_least) (defScope s_is_at_least) [] [] f fd) (B : Bs mg) (h1 : FnI P w K mg base 1 "is_integer" p_is_integer cIsInt) : FnOk P w K mg base (L2.CX P w) 2 f fd p_is_at_least (spOf K 2 cAtLeast) := by
  refine fn_rule F sc_is_at_least fun X hX ds M Q E hl hc => ?_
  have cf := hX.cf sc_is_at_least
  clear hX hl F
  obtain ⟨n0, n1, _⟩ := nms_is_at_least
  obtain ⟨b1, b2, b3, b4, b5, b6, b7, b8, b9, b10, b11, b12, b13, b14, b15, b16, b17, b18, b19⟩ := B
  refine body_p hc fun Q' E' ⟨d, lo, e, hk, hq⟩ => ?_
  clear hc
  subst e
  wtm_at "sl in"
  wtm_at "sl"
  refine use_isInt hk ?_
  wtm_at "sl"
  refine ite_b (fun h => ?_) (fun h => ?_)
  · obtain ⟨i, rfl⟩ := isInt_ex h
    wtm_at "sl"
    wtm_at "sl r0"
    exact hq
  · wtm_at "sl r0"
    rw [not_int_atLeast h] at hq
    exact hq
/-! ### schedules -/
abbrev erS (K : PySem.W.Frag) (x f : Str) (d : D) : Er := ⟨He.ga K x, [(f, d)]⟩
def schedErr (d : D) : Option Int := match d.seq with
  | none => some (-1)
  | some es => if 200 < es.length then some (-1) else (es.findIdx? fun e => !atLeast e 2).map Int.ofNat
def isLT (d : D) : Bool := match d with
  | .lst _ => true
  | .fz _ => true
  | .tup _ => true
  | _ => false
theorem isLT_none (h : isLT d = false) : d.seq = none := by cases d <;> first | rfl | cases h
theorem isLT_some (h : isLT d = true) : ∃ es, d.seq = some es := by cases d <;> first | exact ⟨_, rfl⟩ | cases h
theorem isLT_ty {m : String} (h : d.tyN = some m) : (isN m "list" || isN m "tuple") = isLT d := by
  cases d <;> cases h <;> simp [isN, isLT]
theorem seq_cases (h : d.seq = some es) : d = .lst es ∨ d = .fz es ∨ d = .tup es := by
  cases d <;> cases h <;> simp
theorem cd_len_seq (h : d.seq = some es) (q : Q (.int es.length) M) : ClD X (.builtin "len") [d] M Q := by
  rcases seq_cases h with rfl | rfl | rfl
  · exact cd_len_lst q
  · exact cd_len_fz q
  · exact cd_len_tup q
/-- the first place at which p fails -/
theorem findIdx_at {p : D → Bool} {i : Nat} (he : es[i]? = some e) (hb : p e = false) (hall : ∀ (j : Nat) (x : D), j < i → es[j]? = some x → p x = true) : es.findIdx? (fun x => !p x) = some i := by
  rw [List.findIdx?_eq_some_iff_getElem]
  obtain ⟨hi, he'⟩ := List.getElem?_eq_some_iff.mp he
  refine ⟨hi, by rw [he', hb]; rfl, fun j hj => ?_⟩
  have := hall j es[j] hj (by simp [Nat.lt_trans hj hi])
  simp [this]
theorem findIdx_no {p : D → Bool} (hall : ∀ (j : Nat) (x : D), j < es.length → es[j]? = some x → p x = true) : es.findIdx? (fun x => !p x) = none := by
  rw [List.findIdx?_eq_none_iff]
  intro x hx
  obtain ⟨j, hj⟩ := List.mem_iff_getElem?.mp hx
  rw [hall j x (List.getElem?_eq_some_iff.mp hj).1 hj]
  rfl
def cReqSched (K : PySem.W.Frag) : Ct := Pc fun ds Q E => ∃ d, ds = [d] ∧ d.kd 1 ∧ match schedErr d with
  | none => Q .non
  | some i => E (erS K "InvalidSchedule" "index" (.int i))
theorem f_require_schedule (F : FunD K "require_schedule" "require_schedule" (defArgs s_require_schedule) (defBody s_require_schedule) (defScope s_require_schedule) [] [] f fd) (B : Bs mg) (h1 : FnI P w K mg base 2 "is_at_least" p_is_at_least cAtLeast) (c1 : Cn mg "MAX_ROUNDS" (.int 200)) (x1 : ExcI P w K mg base "InvalidSchedule" "index" (He.ga K "InvalidSchedule")) : FnOk P w K mg base (L2.CX P w) 3 f fd p_require_schedule (spOf K 1 (cReqSched K)) := by
  refine fn_rule F sc_require_schedule fun X hX ds M Q E hl hc => ?_
  have cf := hX.cf sc_require_schedule
  clear hX hl F
  obtain ⟨n0, n1, n2, _⟩ := nms_require_schedule
  obtain ⟨b1, b2, b3, b4, b5, b6, b7, b8, b9, b10, b11, b12, b13, b14, b15, b16, b17, b18, b19⟩ := B
  refine body_p hc fun Q' E' ⟨d, e, hk, hq⟩ => ?_
  clear hc
  subst e
  wtm_at "sl in"
  obtain ⟨m, hm⟩ := hk.1
  wtm_at "sl"
  rw [isLT_ty hm]
  refine ite_b (fun h => ?_) (fun h => ?_)
  · have hn := isLT_none (by simpa using h)
    wtm_at "sl"
    wtm_at "sl r0"
    simpa [schedErr, hn] using hq
  · obtain ⟨es, hs⟩ := isLT_some (by simpa using h)
    wtm_at "sl"
    refine cd_len_seq hs ?_
    wtm_at "sl"
    refine ite_dec (fun h2 => ?_) (fun h2 => ?_)
    · wtm_at "sl"
      wtm_at "sl r0"
      have : 200 < es.length := by omega
      simpa [schedErr, hs, this] using hq
    · wtm_at "sl"
      have h3 : ¬ 200 < es.length := by omega
      simp only [schedErr, hs, if_neg h3] at hq
      refine' sj_cons (s1_fr cf (fun i st' M' => (∃ a b, st' = [some d, a, b]) ∧ M' = [] ∧ ∀ (j : Nat) (x : D), j < i → es[j]? = some x → atLeast x 2 = true) ?_)
      wtm_at "sl"
      refine ⟨d, es, rfl, seq_cases hs, ⟨⟨none, none, rfl⟩, rfl, fun j x hj => absurd hj (Nat.not_lt_zero _)⟩, fun i x st' M' hx ⟨⟨a, b, e1⟩, e2, hall⟩ => ?_, fun st' M' ⟨_, e2, hall⟩ => ?_⟩
      · subst e1 e2
        obtain ⟨e, he, rfl⟩ := enumF_get hx
        wtm_at "sl"
        refine use_atLeast (hk.2 es hs e (List.mem_of_getElem? he)) ?_
        wtm_at "sl"
        refine ite_b (fun h4 => ?_) (fun h4 => ?_)
        · wtm_at "sl"
          wtm_at "sl r0"
          rw [findIdx_at he (by simpa using h4) hall] at hq
          simpa using hq
        · wtm_at "sl"
          refine ⟨⟨_, _, rfl⟩, rfl, fun j x hj hx2 => ?_⟩
          rcases Nat.lt_succ_iff_lt_or_eq.mp hj with hj | rfl
          · exact hall j x hj hx2
          · rw [he] at hx2
            cases hx2
            simpa using h4
      · subst e2
        wtm_at "sl"
        wtm_at "sl r0"
        rw [findIdx_no (by rw [enumF_len] at hall; exact hall)] at hq
        exact hq
/-! ### rounds, groups, counts -/
def roundsErr (d : D) : Option Int := match schedErr d with
  | some i => some i
  | none => match d.seq with
    | some [] => some 0
    | _ => none
def cReqRounds (K : PySem.W.Frag) : Ct := Pc fun ds Q E => ∃ d, ds = [d] ∧ d.kd 1 ∧ match roundsErr d with
  | none => Q .non
  | some i => E (erS K "InvalidSchedule" "index" (.int i))
theorem schedErr_seq (h : schedErr d = none) : ∃ es, d.seq = some es ∧ es.length ≤ 200 ∧ ∀ e ∈ es, atLeast e 2 = true := by
  unfold schedErr at h
  cases hs : d.seq with
  | none => rw [hs] at h; cases h
  | some es =>
    rw [hs] at h
    simp only at h
    by_cases h2 : 200 < es.length
    · rw [if_pos h2] at h; cases h
    · rw [if_neg h2] at h
      refine ⟨es, rfl, by omega, fun e he => ?_⟩
      simp only [Option.map_eq_none_iff, List.findIdx?_eq_none_iff] at h
      simpa using h e he
/-- the use of require_schedule: what follows where it is right, what is raised where not -/
theorem use_reqSched (hk : d.kd 1) (q : schedErr d = none → Q .non M) (r : ∀ i, schedErr d = some i → E (erS K "InvalidSchedule" "index" (.int i)) st M) : CtJ (cReqSched K) 1 [d] st M Q E := by
  refine ctj_p ⟨_, rfl, hk, ?_⟩
  cases h : schedErr d with
  | none => exact q h
  | some i => exact r i h
theorem f_require_rounds (F : FunD K "require_rounds" "require_rounds" (defArgs s_require_rounds) (defBody s_require_rounds) (defScope s_require_rounds) [] [] f fd) (B : Bs mg) (h1 : FnI P w K mg base 3 "require_schedule" p_require_schedule (cReqSched K)) (x1 : ExcI P w K mg base "InvalidSchedule" "index" (He.ga K "InvalidSchedule")) : FnOk P w K mg base (L2.CX P w) 4 f fd p_require_rounds (spOf K 1 (cReqRounds K)) := by
  refine fn_rule F sc_require_rounds fun X hX ds M Q E hl hc => ?_
  have cf := hX.cf sc_require_rounds
  clear hX hl F
  obtain ⟨n0, _⟩ := nms_require_rounds
  obtain ⟨b1, b2, b3, b4, b5, b6, b7, b8, b9, b10, b11, b12, b13, b14, b15, b16, b17, b18, b19⟩ := B
  refine body_p hc fun Q' E' ⟨d, e, hk, hq⟩ => ?_
  clear hc
  subst e
  wtm_at "sl in"
  wtm_at "sl"
  refine use_reqSched hk (fun h => ?_) (fun i h => ?_)
  · obtain ⟨es, hs, h200, _⟩ := schedErr_seq h
    simp only [roundsErr, h, hs] at hq
    wtm_at "sl"
    refine cd_len_seq hs ?_
    wtm_at "sl"
    refine ite_dec (fun h2 => ?_) (fun h2 => ?_)
    · wtm_at "sl"
      wtm_at "sl r0"
      have : es = [] := List.eq_nil_of_length_eq_zero (by omega)
      subst this
      exact hq
    · wtm_at "sl"
      wtm_at "sl r0"
      have : es ≠ [] := fun z => h2 (by rw [z]; rfl)
      cases es with
      | nil => exact absurd rfl this
      | cons => exact hq
  · wtm_at "sl r0"
    simpa [roundsErr, h] using hq
def isGrp (d : D) (n : Int) : Bool := match d with
  | .tup es => decide ((es.length : Int) = n) && es.all (fun e => atLeast e 0)
  | _ => false
def isTup (d : D) : Bool := match d with
  | .tup _ => true
  | _ => false
theorem isTup_ty {m : String} (h : d.tyN = some m) : isN m "tuple" = isTup d := by
  cases d <;> cases h <;> simp [isN, isTup]
theorem isTup_ex (h : isTup d = true) : ∃ es, d = .tup es := by cases d <;> first | exact ⟨_, rfl⟩ | cases h
theorem isTup_no (h : isTup d = false) : isGrp d i = false := by cases d <;> first | rfl | cases h
def cIsGrp : Ct := Pc fun ds Q _ => ∃ d n, ds = [d, .int n] ∧ d.kd 1 ∧ (∀ es, d = .tup es → es.length ≤ 1000000) ∧ Q (.bl (isGrp d n))
theorem use_isGrp {n : Int} (hk : d.kd 1) (hn : ∀ es, d = .tup es → es.length ≤ 1000000) (q : Q (.bl (isGrp d n)) M) : CtJ cIsGrp 2 [d, .int n] st M Q E := ctj_p ⟨_, _, rfl, hk, hn, q⟩
theorem map_bl (es : List D) (g : D → Bool) : es.map (fun e => D.bl (g e)) = (es.map g).map D.bl := by simp
theorem f_is_group (F : FunD K "is_group" "is_group" (defArgs s_is_group) (defBody s_is_group) (defScope s_is_group) [] [] f fd) (B : Bs mg) (h1 : FnI P w K mg base 2 "is_at_least" p_is_at_least cAtLeast) : FnOk P w K mg base (L2.CX P w) 3 f fd p_is_group (spOf K 2 cIsGrp) := by
  refine fn_rule F sc_is_group fun X hX ds M Q E hl hc => ?_
  have cf := hX.cf sc_is_group
  clear hX hl F
  obtain ⟨n0, n1, n2, _⟩ := nms_is_group
  obtain ⟨b1, b2, b3, b4, b5, b6, b7, b8, b9, b10, b11, b12, b13, b14, b15, b16, b17, b18, b19⟩ := B
  refine body_p hc fun Q' E' ⟨d, n, e, hk, hn, hq⟩ => ?_
  clear hc
  subst e
  wtm_at "sl in"
  obtain ⟨m, hm⟩ := hk.1
  wtm_at "sl"
  rw [isTup_ty hm]
  refine ite_b (fun h => ?_) (fun h => ?_)
  · obtain ⟨es, rfl⟩ := isTup_ex h
    wtm_at "sl"
    refine ite_dec (fun h2 => ?_) (fun h2 => ?_)
    · wtm_at "sl"
      refine ej_cp [("entry", 2)] cf (by kernel_rfl) ?_
      wtm_at "sl"
      refine lcj_map (fun e => .bl (atLeast e 0)) [2] (by decide) (hn es rfl) (fun e he Y hY => ?_) ?_
      · have cf := cf.blk hY
        wtm_at "sl"
        refine ⟨rfl, fun Y hY => ?_⟩
        have cf := Cf.blk ‹Cf X _ _ _ _ _ _ _ _ _› hY
        wtm_at "sl"
        refine use_atLeast (hk.2 es rfl e he) ?_
        exact ⟨rfl, rfl⟩
      · wtm_at "sl"
        rw [map_bl]
        refine cd_all cf.calm ?_
        wtm_at "sl r0"
        simpa [isGrp, h2, List.all_map] using hq
    · wtm_at "sl r0"
      simpa [isGrp, h2] using hq
  · wtm_at "sl r0"
    rw [isTup_no h] at hq
    exact hq

end
end SL

set_option maxHeartbeats 2000000
namespace SL
open PySem PySem.Spec PyProof.Rows L2 Evl
local macro_rules | `(tactic| wtm_at "sl e") => `(tactic| first
  | ((with_reducible show EJ _ (Expr.Name _ _) _ _ _ _); first | ((with_reducible refine' ej_nm ?h0 ?h1 ?h2 ?h3 ?h4 ?h5 ?_); (case h0 => with_reducible assumption); (case h1 => with_reducible assumption); (case h2 => kernel_rfl); (case h3 => kernel_rfl); (case h4 => rfl); (case h5 => kernel_rfl)) | ((with_reducible refine' ej_cn ?h0 ?h1 ?h2 ?_); (case h0 => with_reducible assumption); (case h1 => with_reducible assumption); (case h2 => kernel_rfl)) | ((with_reducible refine' ej_ty ?h0 ?h1 ?h2 ?_); (case h0 => with_reducible assumption); (case h1 => with_reducible assumption); (case h2 => kernel_rfl)))
  | ((with_reducible show EJ _ (Expr.Constant (Const.int _) _ _) _ _ _ _); refine ej_int ?_)
  | ((with_reducible show EJ _ (Expr.Constant (Const.str _) _ _) _ _ _ _); refine ej_str ?_)
  | ((with_reducible show EJ _ (Expr.Constant (Const.bool _) _ _) _ _ _ _); refine ej_bl ?_)
  | ((with_reducible show EJ _ (Expr.Constant Const.none _ _) _ _ _ _); refine ej_non ?_)
  | ((with_reducible show EJ _ (Expr.BinOp _ _ _ _) _ _ _ _); refine ej_op ?_)
  | ((with_reducible show EJ _ (Expr.UnaryOp UnaryOp.Not _ _) _ _ _ _); refine ej_not ?_)
  | ((with_reducible show EJ _ (Expr.UnaryOp _ _ _) _ _ _ _); refine ej_un ?_)
  | ((with_reducible show EJ _ (Expr.Tuple _ _ _) _ _ _ _); refine ej_tup ?_)
  | ((with_reducible show EJ _ (Expr.BoolOp _ [_] _) _ _ _ _); refine ej_one ?_)
  | ((with_reducible show EJ _ (Expr.BoolOp BoolOp.And _ _) _ _ _ _); refine ej_and ?_)
  | ((with_reducible show EJ _ (Expr.BoolOp BoolOp.Or _ _) _ _ _ _); refine ej_or ?_)
  | ((with_reducible show EJ _ (Expr.IfExp _ _ _ _) _ _ _ _); refine ej_if ?_)
  | ((with_reducible show EJ _ (Expr.Compare _ [_] _ _) _ _ _ _); (with_reducible refine' ej_cmp ?_ ?h1); (case h1 => first | exact nomark _ | rfl))
  | ((with_reducible show EJ _ (Expr.Compare _ [_, _] _ _) _ _ _ _); (with_reducible refine' ej_chain ?_ ?h1); (case h1 => rfl))
  | ((with_reducible show EJ _ (Expr.Subscript _ (Expr.Slice _ _ _ _) _) _ _ _ _); refine ej_slice ?_)
  | ((with_reducible show EJ _ (Expr.Subscript _ _ _) _ _ _ _); (with_reducible refine' ej_ix ?_ ?h1); (case h1 => intro _ _; rfl))
  | ((with_reducible show EJ _ (Expr.Call (Expr.Name _ _) (_ :: _) [] _) _ _ _ _); first | ((with_reducible refine' ej_cB ?h0 ?h1 ?h2 ?_ ?h3 ?h4); (case h0 => with_reducible assumption); (case h1 => with_reducible assumption); (case h2 => kernel_rfl); (case h3 => rfl); (case h4 => rfl)) | ((with_reducible refine' ej_cT ?h0 ?h1 ?h2 ?_ ?h3 ?h4); (case h0 => with_reducible assumption); (case h1 => with_reducible assumption); (case h2 => kernel_rfl); (case h3 => rfl); (case h4 => rfl)) | ((with_reducible refine' ej_fn ?h0 ?h1 ?h2 ?h3 ?h4 ?_ ?h5 ?h6); (case h0 => with_reducible assumption); (case h1 => with_reducible assumption); (case h2 => kernel_rfl); (case h3 => kernel_rfl); (case h4 => kernel_rfl); (case h5 => rfl); (case h6 => rfl)) | ((with_reducible refine' ej_mk ?h0 ?h1 ?h2 ?h3 ?h4 ?_ ?h5 ?h6); (case h0 => with_reducible assumption); (case h1 => with_reducible assumption); (case h2 => kernel_rfl); (case h3 => kernel_rfl); (case h4 => kernel_rfl); (case h5 => rfl); (case h6 => rfl))))
local macro_rules | `(tactic| wtm_at "sl f") => `(tactic| first
  | ((with_reducible show EJ _ (Expr.Attribute _ _ _) _ _ _ _); (with_reducible refine' ej_fl ?h0 ?h1 ?h2 ?_ ?h3); (case h0 => with_reducible assumption); (case h1 => with_reducible assumption); (case h2 => with_reducible assumption); (case h3 => rfl))
  | ((with_reducible show SJ _ (Stmt.Assign [Expr.Attribute _ _ _] _ _ :: _) _ _ _); (with_reducible refine' sj_cons (s1_fl ?h0 ?h1 ?h2 ?_ ?h3)); (case h0 => with_reducible assumption); (case h1 => with_reducible assumption); (case h2 => with_reducible assumption); (case h3 => rfl))
  | ((with_reducible show EJ _ (Expr.Call (Expr.Attribute _ _ _) (_ :: _) [] _) _ _ _ _); (with_reducible refine' ej_mt ?h0 ?h1 ?h2 ?_ ?h3 ?h4 ?h5); (case h0 => with_reducible assumption); (case h1 => with_reducible assumption); (case h2 => kernel_rfl); (case h3 => rfl); (case h4 => rfl); (case h5 => rfl))
  | ((with_reducible show EJ _ (Expr.Call (Expr.Attribute _ _ _) [] [] _) _ _ _ _); (with_reducible refine' ej_mt0 ?h0 ?h1 ?h2 ?_ ?h3); (case h0 => with_reducible assumption); (case h1 => with_reducible assumption); (case h2 => kernel_rfl); (case h3 => rfl)))
local macro_rules | `(tactic| wtm_at "sl b") => `(tactic| first
  | ((with_reducible show EJ _ (Expr.Call (Expr.Attribute _ (Str.ofString "append") _) (_ :: _) [] _) _ _ _ _); (with_reducible refine' ej_bm PySem.F.plainAttrs_list PySem.F.slot_list_append PySem.F.type_list_append ?_ ?h1 ?h2 ?h3 ?h4 ?h5); (case h1 => rfl); (case h2 => rfl); (case h3 => rfl); (case h4 => rfl); (case h5 => rfl))
  | ((with_reducible show EJ _ (Expr.Call (Expr.Attribute _ (Str.ofString "extend") _) (_ :: _) [] _) _ _ _ _); (with_reducible refine' ej_bm PySem.F.plainAttrs_list PySem.F.slot_list_extend PySem.F.type_list_extend ?_ ?h1 ?h2 ?h3 ?h4 ?h5); (case h1 => rfl); (case h2 => rfl); (case h3 => rfl); (case h4 => rfl); (case h5 => rfl))
  | ((with_reducible show EJ _ (Expr.Call (Expr.Attribute _ (Str.ofString "pop") _) (_ :: _) [] _) _ _ _ _); (with_reducible refine' ej_bm PySem.F.plainAttrs_list PySem.F.slot_list_pop PySem.F.type_list_pop ?_ ?h1 ?h2 ?h3 ?h4 ?h5); (case h1 => rfl); (case h2 => rfl); (case h3 => rfl); (case h4 => rfl); (case h5 => rfl))
  | ((with_reducible show EJ _ (Expr.Call (Expr.Attribute _ (Str.ofString "pop") _) [] [] _) _ _ _ _); (with_reducible refine' ej_bm0 PySem.F.plainAttrs_list PySem.F.slot_list_pop PySem.F.type_list_pop ?_ ?h1 ?h2); (case h1 => rfl); (case h2 => rfl))
  | ((with_reducible show EJ _ (Expr.Call (Expr.Attribute _ (Str.ofString "reverse") _) [] [] _) _ _ _ _); (with_reducible refine' ej_bm0 PySem.F.plainAttrs_list PySem.F.slot_list_reverse PySem.F.type_list_reverse ?_ ?h1 ?h2); (case h1 => rfl); (case h2 => rfl))
  | ((with_reducible show EJ _ (Expr.Call (Expr.Attribute _ (Str.ofString "clear") _) [] [] _) _ _ _ _); (with_reducible refine' ej_bm0 PySem.F.plainAttrs_list PySem.F.slot_list_clear PySem.F.type_list_clear ?_ ?h1 ?h2); (case h1 => rfl); (case h2 => rfl))
  | ((with_reducible show EJ _ (Expr.Call (Expr.Attribute _ (Str.ofString "index") _) (_ :: _) [] _) _ _ _ _); (with_reducible refine' ej_bm PySem.F.plainAttrs_list PySem.F.slot_list_index PySem.F.type_list_index ?_ ?h1 ?h2 ?h3 ?h4 ?h5); (case h1 => rfl); (case h2 => rfl); (case h3 => rfl); (case h4 => rfl); (case h5 => rfl))
  | ((with_reducible show HasTy _ _ (D.raw _) _ ∧ _); first | refine ⟨ty_own 0 rfl, ?_⟩ | refine ⟨ty_own 1 rfl, ?_⟩ | refine ⟨ty_own 2 rfl, ?_⟩)
  | ((with_reducible show HasTy _ _ (D.lst _) _ ∧ _); refine ⟨ty_lst, ?_⟩))
local macro_rules | `(tactic| wtm_at "sl a") => `(tactic| first
  | ((with_reducible show AJ _ [] _ _ _ _); refine aj_nil ?_)
  | ((with_reducible show AJ _ (_ :: _) _ _ _ _); (with_reducible refine' aj_cons ?_ ?h1); (case h1 => rfl)))
local macro_rules | `(tactic| wtm_at "sl t") => `(tactic| first
  | ((with_reducible show TJ _ (Expr.UnaryOp UnaryOp.Not _ _) _ _ _ _); refine tj_not ?_)
  | ((with_reducible show TJ _ (Expr.BoolOp _ _ _) _ _ _ _); refine tjs_of ?_)
  | ((with_reducible show TJ _ (Expr.Compare _ [_] _ _) _ _ _ _); (with_reducible refine' tj_cmp ?_ ?h1); (case h1 => first | exact nomark _ | rfl))
  | ((with_reducible show TJ _ (Expr.Compare _ [_, _] _ _) _ _ _ _); (with_reducible refine' tj_chain ?_ ?h1); (case h1 => rfl))
  | ((with_reducible show TJ _ (_) _ _ _ _); (with_reducible refine' tj_b ?_ ?h1); (case h1 => intro _; rfl))
  | ((with_reducible show TJs _ BoolOp.And (_ :: _ :: _) _ _ _ _ _); refine tjs_and ?_)
  | ((with_reducible show TJs _ BoolOp.Or (_ :: _ :: _) _ _ _ _ _); refine tjs_or ?_)
  | ((with_reducible show TJs _ _ [_] _ _ _ _ _); refine tjs_one ?_))
local macro_rules | `(tactic| wtm_at "sl s") => `(tactic| first
  | ((with_reducible show SJ _ [] _ _ _); refine sj_nil ?_)
  | ((with_reducible show SJ _ (Stmt.Return (some _) _ :: _) _ _ _); refine sj_cons (s1_ret ?_))
  | ((with_reducible show SJ _ (Stmt.Return none _ :: _) _ _ _); refine sj_cons (s1_retN ?_))
  | ((with_reducible show SJ _ (Stmt.If _ _ _ _ :: _) _ _ _); refine sj_cons (s1_if ?_))
  | ((with_reducible show SJ _ (Stmt.Pass _ :: _) _ _ _); refine sj_cons (s1_pass ?_))
  | ((with_reducible show SJ _ (Stmt.Break _ :: _) _ _ _); refine sj_cons (s1_break ?_))
  | ((with_reducible show SJ _ (Stmt.Continue _ :: _) _ _ _); refine sj_cons (s1_cont ?_))
  | ((with_reducible show SJ _ (Stmt.Assign [Expr.Subscript _ _ _] _ _ :: _) _ _ _); (with_reducible refine' sj_cons (s1_setI ?_ ?h1 ?h2 ?h3 ?h4)); (case h1 => intro _; rfl); (case h2 => rfl); (case h3 => rfl); (case h4 => rfl))
  | ((with_reducible show SJ _ (Stmt.Expr _ _ :: _) _ _ _); refine sj_cons (s1_expr ?_))
  | ((with_reducible show SJ _ (Stmt.Raise _ _ _ :: _) _ _ _); (with_reducible refine' sj_cons (s1_rs ?h0 ?h1 ?h2 ?h3 ?h4 ?_ ?h5 ?h6)); (case h0 => with_reducible assumption); (case h1 => with_reducible assumption); (case h2 => kernel_rfl); (case h3 => kernel_rfl); (case h4 => kernel_rfl); (case h5 => rfl); (case h6 => rfl))
  | ((with_reducible show SJ _ (Stmt.Assign [Expr.Name _ _] _ _ :: _) _ _ _); (with_reducible refine' sj_cons (s1_nm ?h0 ?h1 ?h2 ?h3 ?h4 ?_ ?h5)); (case h0 => with_reducible assumption); (case h1 => with_reducible assumption); (case h2 => kernel_rfl); (case h3 => kernel_rfl); (case h4 => kernel_rfl); (case h5 => rfl))
  | ((with_reducible show SJ _ (Stmt.AugAssign (Expr.Name _ _) _ _ _ :: _) _ _ _); (with_reducible refine' sj_cons (s1_ag ?h0 ?h1 ?h2 ?h3 ?h4 ?h5 ?_)); (case h0 => with_reducible assumption); (case h1 => with_reducible assumption); (case h2 => kernel_rfl); (case h3 => kernel_rfl); (case h4 => kernel_rfl); (case h5 => rfl))
  | ((with_reducible show SJ _ (Stmt.Assign [Expr.Tuple _ _ _] (Expr.Call _ _ _ _) _ :: _) _ _ _); (with_reducible refine' sj_cons (s1_asg ?_ ?h1 ?h2 ?h3)); (case h1 => rfl); (case h2 => rfl); (case h3 => rfl))
  | ((with_reducible show SJ _ (Stmt.Assign [Expr.Tuple [Expr.Name _ _, Expr.Name _ _] _ _] (Expr.Tuple [_, _] _ _) _ :: _) _ _ _); (with_reducible refine' sj_cons (s1_pr ?h0 ?h1 ?h2 ?h3 ?h4 ?h5 ?h6 ?h7 ?_ ?h8 ?h9)); (case h0 => with_reducible assumption); (case h1 => with_reducible assumption); (case h2 => with_reducible assumption); (case h3 => kernel_rfl); (case h4 => kernel_rfl); (case h5 => decide); (case h6 => kernel_rfl); (case h7 => kernel_rfl); (case h8 => rfl); (case h9 => rfl)))
local macro_rules | `(tactic| wtm_at "sl g") => `(tactic| first
  | ((with_reducible show GJ _ (Expr.Name _ _) _ _ _ _ _); (with_reducible refine' gj_nm ?h0 ?h1 ?h2 ?h3 ?h4 ?_); (case h0 => with_reducible assumption); (case h1 => with_reducible assumption); (case h2 => kernel_rfl); (case h3 => kernel_rfl); (case h4 => kernel_rfl))
  | ((with_reducible show GJ _ (Expr.Tuple [Expr.Name _ _, Expr.Name _ _] _ _) _ _ _ _ _); (with_reducible refine' gj_tp2 ?h0 ?h1 ?h2 ?h3 ?h4 ?h5 ?h6 ?h7 ?h8 ?_); (case h0 => with_reducible assumption); (case h1 => with_reducible assumption); (case h2 => with_reducible assumption); (case h3 => kernel_rfl); (case h4 => kernel_rfl); (case h5 => kernel_rfl); (case h6 => kernel_rfl); (case h7 => kernel_rfl); (case h8 => kernel_rfl))
  | ((with_reducible show GJ _ (Expr.Tuple [Expr.Name _ _, Expr.Name _ _, Expr.Name _ _] _ _) _ _ _ _ _); (with_reducible refine' gj_tp3 ?h0 ?h1 ?h2 ?h3 ?h4 ?h5 ?h6 ?h7 ?h8 ?h9 ?i0 ?i1 ?i2 ?_); (case h0 => with_reducible assumption); (case h1 => with_reducible assumption); (case h2 => with_reducible assumption); (case h3 => with_reducible assumption); (case h4 => kernel_rfl); (case h5 => kernel_rfl); (case h6 => kernel_rfl); (case h7 => kernel_rfl); (case h8 => kernel_rfl); (case h9 => kernel_rfl); (case i0 => kernel_rfl); (case i1 => kernel_rfl); (case i2 => kernel_rfl))
  | ((with_reducible show GJ _ (Expr.Tuple _ _ _) _ _ _ _ _); (with_reducible refine' gj_tp ?h0 ?_ ?h1 ?h2 ?h3); (case h0 => with_reducible assumption); (case h1 => rfl); (case h2 => rfl); (case h3 => rfl))
  | ((with_reducible show GsJ _ (_ :: _) _ _ _ _ _); (with_reducible refine' gsj_cons ?_ ?h1); (case h1 => rfl))
  | ((with_reducible show GsJ _ [] _ _ _ _ _); refine gsj_nil ?_))
local macro_rules | `(tactic| wtm_at "sl i") => `(tactic| first
  | ((with_reducible show IJ _ _ (Expr.Name _ _) _ _ _ _); (with_reducible refine' ij_nm ?h0 ?h1 ?h2 ?h3 ?h4 ?h5 ?h6 ?_); (case h0 => with_reducible assumption); (case h1 => with_reducible assumption); (case h2 => kernel_rfl); (case h3 => kernel_rfl); (case h4 => rfl); (case h5 => kernel_rfl); (case h6 => first | assumption | exact .inl rfl | exact .inr (.inl rfl) | exact .inr (.inr rfl)))
  | ((with_reducible show IJ _ _ (Expr.Call (Expr.Name (Str.ofString "enumerate") _) [_] [] _) _ _ _ _); (with_reducible refine' ij_en ?h0 ?h1 ?h2 ?_ ?h3); (case h0 => with_reducible assumption); (case h1 => with_reducible assumption); (case h2 => kernel_rfl); (case h3 => rfl))
  | ((with_reducible show IJ _ _ (Expr.Call (Expr.Name (Str.ofString "range") _) [_] [] _) _ _ _ _); (with_reducible refine' ij_r1 ?h0 ?h1 ?h2 ?_ ?h3); (case h0 => with_reducible assumption); (case h1 => with_reducible assumption); (case h2 => kernel_rfl); (case h3 => rfl))
  | ((with_reducible show IJ _ _ (Expr.Call (Expr.Name (Str.ofString "range") _) [_, _] [] _) _ _ _ _); (with_reducible refine' ij_r2 ?h0 ?h1 ?h2 ?_ ?h3 ?h4); (case h0 => with_reducible assumption); (case h1 => with_reducible assumption); (case h2 => kernel_rfl); (case h3 => rfl); (case h4 => rfl))
  | ((with_reducible show IJ _ _ (Expr.Call (Expr.Name (Str.ofString "zip") _) [_, _] [] _) _ _ _ _); (with_reducible refine' ij_zp ?h0 ?h1 ?h2 ?_ ?h3 ?h4); (case h0 => with_reducible assumption); (case h1 => with_reducible assumption); (case h2 => kernel_rfl); (case h3 => rfl); (case h4 => rfl)))
local macro_rules | `(tactic| wtm_at "sl o") => `(tactic| first
  | ((with_reducible show OpD _ (binaryOp Operator.Add) (D.int _) (D.int _) _ _); refine od_add ?_)
  | ((with_reducible show OpD _ (inplaceOp Operator.Add) (D.int _) (D.int _) _ _); refine oi_add ?_)
  | ((with_reducible show OpD _ (binaryOp Operator.Sub) (D.int _) (D.int _) _ _); refine od_sub ?_)
  | ((with_reducible show OpD _ (inplaceOp Operator.Sub) (D.int _) (D.int _) _ _); refine oi_sub ?_)
  | ((with_reducible show OpD _ (binaryOp Operator.Mult) (D.int _) (D.int _) _ _); refine od_mulC (by first | exact .inl ⟨by omega, by omega⟩ | exact .inr ⟨by omega, by omega⟩) ?_)
  | ((with_reducible show OpD _ (binaryOp Operator.Pow) (D.int 10) (D.int 9) _ _); refine od_p9 ?_)
  | ((with_reducible show OpD _ (binaryOp Operator.Pow) (D.int 10) (D.int 12) _ _); refine od_p12 ?_)
  | ((with_reducible show OpD _ (binaryOp Operator.Pow) (D.int 10) (D.int 18) _ _); refine od_p18 ?_)
  | ((with_reducible show OpD _ (binaryOp Operator.Pow) (D.int 10) (D.int 20) _ _); refine od_p20 ?_)
  | ((with_reducible show OpD _ (compareOp CmpOp.Lt) (D.int _) (D.int _) _ _); refine od_lt ?_)
  | ((with_reducible show OpD _ (compareOp CmpOp.LtE) (D.int _) (D.int _) _ _); refine od_le ?_)
  | ((with_reducible show OpD _ (compareOp CmpOp.Gt) (D.int _) (D.int _) _ _); refine od_gt ?_)
  | ((with_reducible show OpD _ (compareOp CmpOp.GtE) (D.int _) (D.int _) _ _); refine od_ge ?_)
  | ((with_reducible show OpD _ (compareOp CmpOp.Eq) (D.int _) (D.int _) _ _); refine od_eqI ?_)
  | ((with_reducible show OpD _ (compareOp CmpOp.NotEq) (D.int _) (D.int _) _ _); refine od_neI ?_)
  | ((with_reducible show OpD _ (compareOp CmpOp.Eq) (D.str _) (D.str _) _ _); refine od_eqS ?_)
  | ((with_reducible show UnD _ _ (D.int _) _ _); refine ud_neg ?_)
  | ((with_reducible show ClD _ (Value.builtin "len") [D.lst _] _ _); refine cd_len_lst ?_)
  | ((with_reducible show ClD _ (Value.builtin "len") [D.tup _] _ _); refine cd_len_tup ?_)
  | ((with_reducible show ClD _ (Value.builtin "len") [D.fz _] _ _); refine cd_len_fz ?_)
  | ((with_reducible show ClD _ (Value.type "int") [D.int _] _ _); refine cd_intI ?_)
  | ((with_reducible show ClD _ (Value.type "int") [D.bl _] _ _); refine cd_intB ?_)
  | ((with_reducible show ClD _ (Value.builtin "isinstance") [_, D.ty _] _ _); (with_reducible refine' cd_isi ?h1 ?h2 ?_); (case h1 => first | assumption | rfl); (case h2 => decide))
  | ((with_reducible show ClD _ (Value.builtin "isinstance") [_, D.tup [D.ty _, D.ty _]] _ _); (with_reducible refine' cd_isi2 ?h1 ?h2 ?h3 ?_); (case h1 => first | assumption | rfl); (case h2 => decide); (case h3 => decide)))
local macro_rules | `(tactic| wtm_at "sl v") => `(tactic| first
  | ((with_reducible show OpD _ (binaryOp Operator.Mod) (D.int _) (D.int _) _ _); refine od_modV (by omega) fun r h0 h1 => ?_)
  | ((with_reducible show OpD _ (binaryOp Operator.FloorDiv) (D.int _) (D.int _) _ _); refine od_div (divOk_le (by omega) (by omega)) ?_))
local macro_rules | `(tactic| wtm_at "sl m") => `(tactic| first
  | ((with_reducible show IxD _ (D.raw _) (D.int _) _ _); first | refine id_own 0 rfl rfl ?_ | refine id_own 1 rfl rfl ?_ | refine id_own 2 rfl rfl ?_)
  | ((with_reducible show if true = true then _ else _); refine ite_t ?_)
  | ((with_reducible show if (!false) = true then _ else _); refine ite_nf ?_)
  | ((with_reducible show if (!true) = true then _ else _); refine ite_nt ?_)
  | ((with_reducible show if false = true then _ else _); refine ite_f ?_)
  | ((with_reducible show ∃ k, D.bl _ = D.bl k ∧ _); refine ⟨_, rfl, ?_⟩)
  | ((with_reducible show ∃ i, D.int _ = D.int i ∧ _); refine ⟨_, rfl, ?_⟩)
  | ((with_reducible show OJ _ none _ _ _ _); refine oj_none ?_)
  | ((with_reducible show OJ _ (some _) _ _ _ _); refine oj_some ?_)
  | ((with_reducible show SlD _ (D.lst _) _ _ _ _); refine sd_lst ?_)
  | ((with_reducible show SlD _ (D.fz _) _ _ _ _); refine sd_fz ?_)
  | ((with_reducible show SlD _ (D.tup _) _ _ _ _); refine sd_tup ?_)
  | ((with_reducible show List.length _ ≤ 100000 ∧ _); refine ⟨Nat.le_of_ble_eq_true rfl, ?_⟩))
local macro_rules | `(tactic| wtm_at "sl") => `(tactic| repeat (first | wtm_at "sl e" | wtm_at "sl a" | wtm_at "sl b" | wtm_at "sl f" | wtm_at "sl o" | wtm_at "sl t" | wtm_at "sl s" | wtm_at "sl m" | wtm_at "sl g" | wtm_at "sl i"))
local macro_rules | `(tactic| wtm_at "slv") => `(tactic| repeat (first | wtm_at "sl e" | wtm_at "sl a" | wtm_at "sl b" | wtm_at "sl f" | wtm_at "sl v" | wtm_at "sl o" | wtm_at "sl t" | wtm_at "sl s" | wtm_at "sl m" | wtm_at "sl g" | wtm_at "sl i"))
local macro_rules | `(tactic| wtm_at "sl in") => `(tactic| conv => arg 2; whnf)
local macro_rules | `(tactic| wtm_at "sl r0") => `(tactic| refine ⟨[], List.nil_sublist _, rfl, ?_⟩)
section
variable {X : Cx} {st : Sls} {M : Mem} {Q : DK} {E : EK} {P : Program} {w : World} {K : PySem.W.Frag} {mg : Str → Option Value} {base : Heap} {f : Addr} {fd : FuncData} {d e : D} {es : List D} {lo hi : Int} {i : Int}
/-! ### counts, splits -/
inductive Err where
  | sched (i : Int) | counts (d : D) | large (n : Int) | split (i : Int) | group (d : D) | goal (d : D) | number (x : Str) | plan (i : Int) | choices (i : Int) | strategy (d : D) | moves (i : Int) | mismatch (x : Str)
def Err.er (K : PySem.W.Frag) : Err → Er
  | .sched i => erS K "InvalidSchedule" "index" (.int i)
  | .counts d => erS K "InvalidCounts" "counts" d
  | .large n => erS K "TooLarge" "limit" (.int n)
  | .split i => erS K "InvalidSplit" "index" (.int i)
  | .group d => erS K "InvalidGroup" "group" d
  | .goal d => erS K "InvalidGoal" "goal" d
  | .number x => erS K "InvalidNumber" "name" (.str x)
  | .plan i => erS K "InvalidPlan" "index" (.int i)
  | .choices i => erS K "InvalidChoices" "index" (.int i)
  | .strategy d => erS K "InvalidStrategy" "strategy" d
  | .moves i => erS K "InvalidMoves" "index" (.int i)
  | .mismatch x => erS K "Mismatch" "name" (.str x)
def countsOk (d : D) : Bool := match d with
  | .tup es => decide (es.length ≤ 200) && es.all (fun e => atLeast e 0)
  | _ => false
theorem countsOk_no (h : isTup d = false) : countsOk d = false := by cases d <;> first | rfl | cases h
def cReqCounts (K : PySem.W.Frag) : Ct := Pc fun ds Q E => ∃ d, ds = [d] ∧ d.kd 1 ∧ if countsOk d = true then Q .non else E ((Err.counts d).er K)
theorem use_reqCounts (hk : d.kd 1) (q : countsOk d = true → Q .non M) (r : countsOk d = false → E ((Err.counts d).er K) st M) : CtJ (cReqCounts K) 1 [d] st M Q E :=
  ctj_p ⟨_, rfl, hk, ite_b q r⟩
theorem f_require_counts (F : FunD K "require_counts" "require_counts" (defArgs s_require_counts) (defBody s_require_counts) (defScope s_require_counts) [] [] f fd) (B : Bs mg) (h1 : FnI P w K mg base 3 "is_group" p_is_group cIsGrp) (c1 : Cn mg "MAX_ROUNDS" (.int 200)) (x1 : ExcI P w K mg base "InvalidCounts" "counts" (He.ga K "InvalidCounts")) : FnOk P w K mg base (L2.CX P w) 4 f fd p_require_counts (spOf K 1 (cReqCounts K)) := by
  refine fn_rule F sc_require_counts fun X hX ds M Q E hl hc => ?_
  have cf := hX.cf sc_require_counts
  clear hX hl F
  obtain ⟨n0, _⟩ := nms_require_counts
  obtain ⟨b1, b2, b3, b4, b5, b6, b7, b8, b9, b10, b11, b12, b13, b14, b15, b16, b17, b18, b19⟩ := B
  refine body_p hc fun Q' E' ⟨d, e, hk, hq⟩ => ?_
  clear hc
  subst e
  wtm_at "sl in"
  obtain ⟨m, hm⟩ := hk.1
  wtm_at "sl"
  rw [isTup_ty hm]
  refine ite_b (fun h => ?_) (fun h => ?_)
  · wtm_at "sl"
    wtm_at "sl r0"
    rw [if_neg (by rw [countsOk_no (by simpa using h)]; decide)] at hq
    exact hq
  · obtain ⟨es, rfl⟩ := isTup_ex (by simpa using h)
    wtm_at "sl"
    refine ite_dec (fun h2 => ?_) (fun h2 => ?_)
    · wtm_at "sl"
      wtm_at "sl r0"
      have h3 : ¬ es.length ≤ 200 := by omega
      rw [if_neg (by simp [countsOk, h3])] at hq
      exact hq
    · have h3 : es.length ≤ 200 := by omega
      wtm_at "sl"
      refine use_isGrp hk (fun es' he => by cases he; omega) ?_
      wtm_at "sl"
      have hg : isGrp (.tup es) es.length = countsOk (.tup es) := by simp [isGrp, countsOk, h3]
      rw [hg]
      refine ite_b (fun h4 => ?_) (fun h4 => ?_)
      · wtm_at "sl"
        wtm_at "sl r0"
        rw [if_neg (by simpa using h4)] at hq
        exact hq
      · wtm_at "sl"
        wtm_at "sl r0"
        rw [if_pos (by simpa using h4)] at hq
        exact hq
theorem id_seq {e : D} (h : d.seq = some es) (ha : atI es i = some e) (q : Q e M) : IxD X d (.int i) M Q := by
  rcases seq_cases h with rfl | rfl | rfl
  · exact id_lst ha q
  · exact id_fz ha q
  · exact id_tup ha q
theorem atI_zero {e : D} : atI (e :: es) 0 = some e := atI_nat (xs := e :: es) (j := 0) rfl
def cSmall (K : PySem.W.Frag) : Ct := Pc fun ds Q E => ∃ d g es, ds = [d] ∧ d.seq = some (.int g :: es) ∧ if g ≤ 1000 then Q .non else E ((Err.large 1000).er K)
theorem f_require_small_round (F : FunD K "require_small_round" "require_small_round" (defArgs s_require_small_round) (defBody s_require_small_round) (defScope s_require_small_round) [] [] f fd) (B : Bs mg) (c1 : Cn mg "MAX_GROUPS" (.int 1000)) (x1 : ExcI P w K mg base "TooLarge" "limit" (He.ga K "TooLarge")) : FnOk P w K mg base (L2.CX P w) 3 f fd p_require_small_round (spOf K 1 (cSmall K)) := by
  refine fn_rule F sc_require_small_round fun X hX ds M Q E hl hc => ?_
  have cf := hX.cf sc_require_small_round
  clear hX hl F
  obtain ⟨n0, _⟩ := nms_require_small_round
  obtain ⟨b1, b2, b3, b4, b5, b6, b7, b8, b9, b10, b11, b12, b13, b14, b15, b16, b17, b18, b19⟩ := B
  refine body_p hc fun Q' E' ⟨d, g, es, e, hs, hq⟩ => ?_
  clear hc
  subst e
  wtm_at "sl in"
  wtm_at "sl"
  refine id_seq hs atI_zero ?_
  wtm_at "sl"
  refine ite_dec (fun h2 => ?_) (fun h2 => ?_)
  · wtm_at "sl"
    wtm_at "sl r0"
    rw [if_neg (by omega)] at hq
    exact hq
  · wtm_at "sl"
    wtm_at "sl r0"
    rw [if_pos (by omega)] at hq
    exact hq
def D.val : D → Int
  | .int i => i
  | _ => 0
theorem all_ints (h : es.all (fun e => atLeast e lo) = true) : es = (es.map D.val).map D.int := by
  induction es with
  | nil => rfl
  | cons e es ih =>
    simp only [List.all_cons, Bool.and_eq_true] at h
    rw [List.map_cons, List.map_cons, ← ih h.2]
    congr 1
    cases e <;> first | rfl | cases h.1
theorem all_ge (h : es.all (fun e => atLeast e lo) = true) : ∀ z ∈ es.map D.val, lo ≤ z := by
  intro z hz
  obtain ⟨e, he, rfl⟩ := List.mem_map.mp hz
  have := List.all_eq_true.mp h e he
  cases e <;> first | (simpa [atLeast, D.val] using this) | cases this
theorem countsOk_ex (h : countsOk d = true) : ∃ cs : List Int, d = .tup (cs.map .int) ∧ cs.length ≤ 200 ∧ ∀ z ∈ cs, 0 ≤ z := by
  cases d with
  | tup es =>
    simp only [countsOk, Bool.and_eq_true, decide_eq_true_eq] at h
    exact ⟨es.map D.val, by rw [← all_ints h.2], by simpa using h.1, all_ge h.2⟩
  | _ => cases h
theorem isGrp_ex {n : Nat} (h : isGrp d n = true) : ∃ cs : List Int, d = .tup (cs.map .int) ∧ cs.length = n ∧ ∀ z ∈ cs, 0 ≤ z := by
  cases d with
  | tup es =>
    simp only [isGrp, Bool.and_eq_true, decide_eq_true_eq] at h
    exact ⟨es.map D.val, by rw [← all_ints h.2], by rw [List.length_map]; omega, all_ge h.2⟩
  | _ => cases h
theorem roundsErr_ex (h : roundsErr d = none) : ∃ g ns, d.seq = some ((g :: ns).map D.int) ∧ (g :: ns).length ≤ 200 ∧ ∀ z ∈ g :: ns, 2 ≤ z := by
  have h0 : schedErr d = none := by
    cases hs : schedErr d with
    | none => rfl
    | some i => simp [roundsErr, hs] at h
  obtain ⟨es, hs, hl, ha⟩ := schedErr_seq h0
  have ha' : es.all (fun e => atLeast e 2) = true := List.all_eq_true.mpr ha
  have e1 := all_ints ha'
  have e2 := all_ge ha'
  simp only [roundsErr, h0, hs] at h
  cases es with
  | nil => cases h
  | cons x xs => exact ⟨x.val, xs.map D.val, by rw [hs, e1]; simp, by simpa using hl, by simpa using e2⟩
/-- the sums of the columns -/
def colSums (rs : List (List Int)) (n : Nat) : List Int := (List.range n).map fun i => (rs.map fun r => r.getD i 0).sum
def rowsOf (es : List D) : List (List Int) := es.map fun e => match e with
  | .tup cs => cs.map D.val
  | _ => []
def splitErr (s c p : D) : Option Err := match roundsErr s with
  | some i => some (.sched i)
  | none => if countsOk c = true then (match s.seq, c, p.seq with
      | some (.int g :: _), .tup cs, some rows => if 1000 < g then some (.large 1000) else if isTup p = true ∨ (rows.length : Int) ≠ g then some (.split (-1)) else
          (match rows.findIdx? (fun r => !isGrp r cs.length) with
          | some i => some (.split i)
          | none => if colSums (rowsOf rows) cs.length = cs.map D.val then none else some (.split g))
      | some (.int g :: _), _, _ => if 1000 < g then some (.large 1000) else some (.split (-1))
      | _, _, _ => none) else some (.counts c)

end
end SL

set_option maxHeartbeats 2000000
namespace SL
open PySem PySem.Spec PyProof.Rows L2 Evl
local macro_rules | `(tactic| wtm_at "sl e") => `(tactic| first
  | ((with_reducible show EJ _ (Expr.Name _ _) _ _ _ _); first | ((with_reducible refine' ej_nm ?h0 ?h1 ?h2 ?h3 ?h4 ?h5 ?_); (case h0 => with_reducible assumption); (case h1 => with_reducible assumption); (case h2 => kernel_rfl); (case h3 => kernel_rfl); (case h4 => rfl); (case h5 => kernel_rfl)) | ((with_reducible refine' ej_cn ?h0 ?h1 ?h2 ?_); (case h0 => with_reducible assumption); (case h1 => with_reducible assumption); (case h2 => kernel_rfl)) | ((with_reducible refine' ej_ty ?h0 ?h1 ?h2 ?_); (case h0 => with_reducible assumption); (case h1 => with_reducible assumption); (case h2 => kernel_rfl)))
  | ((with_reducible show EJ _ (Expr.Constant (Const.int _) _ _) _ _ _ _); refine ej_int ?_)
  | ((with_reducible show EJ _ (Expr.Constant (Const.str _) _ _) _ _ _ _); refine ej_str ?_)
  | ((with_reducible show EJ _ (Expr.Constant (Const.bool _) _ _) _ _ _ _); refine ej_bl ?_)
  | ((with_reducible show EJ _ (Expr.Constant Const.none _ _) _ _ _ _); refine ej_non ?_)
  | ((with_reducible show EJ _ (Expr.BinOp _ _ _ _) _ _ _ _); refine ej_op ?_)
  | ((with_reducible show EJ _ (Expr.UnaryOp UnaryOp.Not _ _) _ _ _ _); refine ej_not ?_)
  | ((with_reducible show EJ _ (Expr.UnaryOp _ _ _) _ _ _ _); refine ej_un ?_)
  | ((with_reducible show EJ _ (Expr.Tuple _ _ _) _ _ _ _); refine ej_tup ?_)
  | ((with_reducible show EJ _ (Expr.BoolOp _ [_] _) _ _ _ _); refine ej_one ?_)
  | ((with_reducible show EJ _ (Expr.BoolOp BoolOp.And _ _) _ _ _ _); refine ej_and ?_)
  | ((with_reducible show EJ _ (Expr.BoolOp BoolOp.Or _ _) _ _ _ _); refine ej_or ?_)
  | ((with_reducible show EJ _ (Expr.IfExp _ _ _ _) _ _ _ _); refine ej_if ?_)
  | ((with_reducible show EJ _ (Expr.Compare _ [_] _ _) _ _ _ _); (with_reducible refine' ej_cmp ?_ ?h1); (case h1 => first | exact nomark _ | rfl))
  | ((with_reducible show EJ _ (Expr.Compare _ [_, _] _ _) _ _ _ _); (with_reducible refine' ej_chain ?_ ?h1); (case h1 => rfl))
  | ((with_reducible show EJ _ (Expr.Subscript _ (Expr.Slice _ _ _ _) _) _ _ _ _); refine ej_slice ?_)
  | ((with_reducible show EJ _ (Expr.Subscript _ _ _) _ _ _ _); (with_reducible refine' ej_ix ?_ ?h1); (case h1 => intro _ _; rfl))
  | ((with_reducible show EJ _ (Expr.Call (Expr.Name _ _) (_ :: _) [] _) _ _ _ _); first | ((with_reducible refine' ej_cB ?h0 ?h1 ?h2 ?_ ?h3 ?h4); (case h0 => with_reducible assumption); (case h1 => with_reducible assumption); (case h2 => kernel_rfl); (case h3 => rfl); (case h4 => rfl)) | ((with_reducible refine' ej_cT ?h0 ?h1 ?h2 ?_ ?h3 ?h4); (case h0 => with_reducible assumption); (case h1 => with_reducible assumption); (case h2 => kernel_rfl); (case h3 => rfl); (case h4 => rfl)) | ((with_reducible refine' ej_fn ?h0 ?h1 ?h2 ?h3 ?h4 ?_ ?h5 ?h6); (case h0 => with_reducible assumption); (case h1 => with_reducible assumption); (case h2 => kernel_rfl); (case h3 => kernel_rfl); (case h4 => kernel_rfl); (case h5 => rfl); (case h6 => rfl)) | ((with_reducible refine' ej_mk ?h0 ?h1 ?h2 ?h3 ?h4 ?_ ?h5 ?h6); (case h0 => with_reducible assumption); (case h1 => with_reducible assumption); (case h2 => kernel_rfl); (case h3 => kernel_rfl); (case h4 => kernel_rfl); (case h5 => rfl); (case h6 => rfl))))
local macro_rules | `(tactic| wtm_at "sl f") => `(tactic| first
  | ((with_reducible show EJ _ (Expr.Attribute _ _ _) _ _ _ _); (with_reducible refine' ej_fl ?h0 ?h1 ?h2 ?_ ?h3); (case h0 => with_reducible assumption); (case h1 => with_reducible assumption); (case h2 => with_reducible assumption); (case h3 => rfl))
  | ((with_reducible show SJ _ (Stmt.Assign [Expr.Attribute _ _ _] _ _ :: _) _ _ _); (with_reducible refine' sj_cons (s1_fl ?h0 ?h1 ?h2 ?_ ?h3)); (case h0 => with_reducible assumption); (case h1 => with_reducible assumption); (case h2 => with_reducible assumption); (case h3 => rfl))
  | ((with_reducible show EJ _ (Expr.Call (Expr.Attribute _ _ _) (_ :: _) [] _) _ _ _ _); (with_reducible refine' ej_mt ?h0 ?h1 ?h2 ?_ ?h3 ?h4 ?h5); (case h0 => with_reducible assumption); (case h1 => with_reducible assumption); (case h2 => kernel_rfl); (case h3 => rfl); (case h4 => rfl); (case h5 => rfl))
  | ((with_reducible show EJ _ (Expr.Call (Expr.Attribute _ _ _) [] [] _) _ _ _ _); (with_reducible refine' ej_mt0 ?h0 ?h1 ?h2 ?_ ?h3); (case h0 => with_reducible assumption); (case h1 => with_reducible assumption); (case h2 => kernel_rfl); (case h3 => rfl)))
local macro_rules | `(tactic| wtm_at "sl b") => `(tactic| first
  | ((with_reducible show EJ _ (Expr.Call (Expr.Attribute _ (Str.ofString "append") _) (_ :: _) [] _) _ _ _ _); (with_reducible refine' ej_bm PySem.F.plainAttrs_list PySem.F.slot_list_append PySem.F.type_list_append ?_ ?h1 ?h2 ?h3 ?h4 ?h5); (case h1 => rfl); (case h2 => rfl); (case h3 => rfl); (case h4 => rfl); (case h5 => rfl))
  | ((with_reducible show EJ _ (Expr.Call (Expr.Attribute _ (Str.ofString "extend") _) (_ :: _) [] _) _ _ _ _); (with_reducible refine' ej_bm PySem.F.plainAttrs_list PySem.F.slot_list_extend PySem.F.type_list_extend ?_ ?h1 ?h2 ?h3 ?h4 ?h5); (case h1 => rfl); (case h2 => rfl); (case h3 => rfl); (case h4 => rfl); (case h5 => rfl))
  | ((with_reducible show EJ _ (Expr.Call (Expr.Attribute _ (Str.ofString "pop") _) (_ :: _) [] _) _ _ _ _); (with_reducible refine' ej_bm PySem.F.plainAttrs_list PySem.F.slot_list_pop PySem.F.type_list_pop ?_ ?h1 ?h2 ?h3 ?h4 ?h5); (case h1 => rfl); (case h2 => rfl); (case h3 => rfl); (case h4 => rfl); (case h5 => rfl))
  | ((with_reducible show EJ _ (Expr.Call (Expr.Attribute _ (Str.ofString "pop") _) [] [] _) _ _ _ _); (with_reducible refine' ej_bm0 PySem.F.plainAttrs_list PySem.F.slot_list_pop PySem.F.type_list_pop ?_ ?h1 ?h2); (case h1 => rfl); (case h2 => rfl))
  | ((with_reducible show EJ _ (Expr.Call (Expr.Attribute _ (Str.ofString "reverse") _) [] [] _) _ _ _ _); (with_reducible refine' ej_bm0 PySem.F.plainAttrs_list PySem.F.slot_list_reverse PySem.F.type_list_reverse ?_ ?h1 ?h2); (case h1 => rfl); (case h2 => rfl))
  | ((with_reducible show EJ _ (Expr.Call (Expr.Attribute _ (Str.ofString "clear") _) [] [] _) _ _ _ _); (with_reducible refine' ej_bm0 PySem.F.plainAttrs_list PySem.F.slot_list_clear PySem.F.type_list_clear ?_ ?h1 ?h2); (case h1 => rfl); (case h2 => rfl))
  | ((with_reducible show EJ _ (Expr.Call (Expr.Attribute _ (Str.ofString "index") _) (_ :: _) [] _) _ _ _ _); (with_reducible refine' ej_bm PySem.F.plainAttrs_list PySem.F.slot_list_index PySem.F.type_list_index ?_ ?h1 ?h2 ?h3 ?h4 ?h5); (case h1 => rfl); (case h2 => rfl); (case h3 => rfl); (case h4 => rfl); (case h5 => rfl))
  | ((with_reducible show HasTy _ _ (D.raw _) _ ∧ _); first | refine ⟨ty_own 0 rfl, ?_⟩ | refine ⟨ty_own 1 rfl, ?_⟩ | refine ⟨ty_own 2 rfl, ?_⟩)
  | ((with_reducible show HasTy _ _ (D.lst _) _ ∧ _); refine ⟨ty_lst, ?_⟩))
local macro_rules | `(tactic| wtm_at "sl a") => `(tactic| first
  | ((with_reducible show AJ _ [] _ _ _ _); refine aj_nil ?_)
  | ((with_reducible show AJ _ (_ :: _) _ _ _ _); (with_reducible refine' aj_cons ?_ ?h1); (case h1 => rfl)))
local macro_rules | `(tactic| wtm_at "sl t") => `(tactic| first
  | ((with_reducible show TJ _ (Expr.UnaryOp UnaryOp.Not _ _) _ _ _ _); refine tj_not ?_)
  | ((with_reducible show TJ _ (Expr.BoolOp _ _ _) _ _ _ _); refine tjs_of ?_)
  | ((with_reducible show TJ _ (Expr.Compare _ [_] _ _) _ _ _ _); (with_reducible refine' tj_cmp ?_ ?h1); (case h1 => first | exact nomark _ | rfl))
  | ((with_reducible show TJ _ (Expr.Compare _ [_, _] _ _) _ _ _ _); (with_reducible refine' tj_chain ?_ ?h1); (case h1 => rfl))
  | ((with_reducible show TJ _ (_) _ _ _ _); (with_reducible refine' tj_b ?_ ?h1); (case h1 => intro _; rfl))
  | ((with_reducible show TJs _ BoolOp.And (_ :: _ :: _) _ _ _ _ _); refine tjs_and ?_)
  | ((with_reducible show TJs _ BoolOp.Or (_ :: _ :: _) _ _ _ _ _); refine tjs_or ?_)
  | ((with_reducible show TJs _ _ [_] _ _ _ _ _); refine tjs_one ?_))
local macro_rules | `(tactic| wtm_at "sl s") => `(tactic| first
  | ((with_reducible show SJ _ [] _ _ _); refine sj_nil ?_)
  | ((with_reducible show SJ _ (Stmt.Return (some _) _ :: _) _ _ _); refine sj_cons (s1_ret ?_))
  | ((with_reducible show SJ _ (Stmt.Return none _ :: _) _ _ _); refine sj_cons (s1_retN ?_))
  | ((with_reducible show SJ _ (Stmt.If _ _ _ _ :: _) _ _ _); refine sj_cons (s1_if ?_))
  | ((with_reducible show SJ _ (Stmt.Pass _ :: _) _ _ _); refine sj_cons (s1_pass ?_))
  | ((with_reducible show SJ _ (Stmt.Break _ :: _) _ _ _); refine sj_cons (s1_break ?_))
  | ((with_reducible show SJ _ (Stmt.Continue _ :: _) _ _ _); refine sj_cons (s1_cont ?_))
  | ((with_reducible show SJ _ (Stmt.Assign [Expr.Subscript _ _ _] _ _ :: _) _ _ _); (with_reducible refine' sj_cons (s1_setI ?_ ?h1 ?h2 ?h3 ?h4)); (case h1 => intro _; rfl); (case h2 => rfl); (case h3 => rfl); (case h4 => rfl))
  | ((with_reducible show SJ _ (Stmt.Expr _ _ :: _) _ _ _); refine sj_cons (s1_expr ?_))
  | ((with_reducible show SJ _ (Stmt.Raise _ _ _ :: _) _ _ _); (with_reducible refine' sj_cons (s1_rs ?h0 ?h1 ?h2 ?h3 ?h4 ?_ ?h5 ?h6)); (case h0 => with_reducible assumption); (case h1 => with_reducible assumption); (case h2 => kernel_rfl); (case h3 => kernel_rfl); (case h4 => kernel_rfl); (case h5 => rfl); (case h6 => rfl))
  | ((with_reducible show SJ _ (Stmt.Assign [Expr.Name _ _] _ _ :: _) _ _ _); (with_reducible refine' sj_cons (s1_nm ?h0 ?h1 ?h2 ?h3 ?h4 ?_ ?h5)); (case h0 => with_reducible assumption); (case h1 => with_reducible assumption); (case h2 => kernel_rfl); (case h3 => kernel_rfl); (case h4 => kernel_rfl); (case h5 => rfl))
  | ((with_reducible show SJ _ (Stmt.AugAssign (Expr.Name _ _) _ _ _ :: _) _ _ _); (with_reducible refine' sj_cons (s1_ag ?h0 ?h1 ?h2 ?h3 ?h4 ?h5 ?_)); (case h0 => with_reducible assumption); (case h1 => with_reducible assumption); (case h2 => kernel_rfl); (case h3 => kernel_rfl); (case h4 => kernel_rfl); (case h5 => rfl))
  | ((with_reducible show SJ _ (Stmt.Assign [Expr.Tuple _ _ _] (Expr.Call _ _ _ _) _ :: _) _ _ _); (with_reducible refine' sj_cons (s1_asg ?_ ?h1 ?h2 ?h3)); (case h1 => rfl); (case h2 => rfl); (case h3 => rfl))
  | ((with_reducible show SJ _ (Stmt.Assign [Expr.Tuple [Expr.Name _ _, Expr.Name _ _] _ _] (Expr.Tuple [_, _] _ _) _ :: _) _ _ _); (with_reducible refine' sj_cons (s1_pr ?h0 ?h1 ?h2 ?h3 ?h4 ?h5 ?h6 ?h7 ?_ ?h8 ?h9)); (case h0 => with_reducible assumption); (case h1 => with_reducible assumption); (case h2 => with_reducible assumption); (case h3 => kernel_rfl); (case h4 => kernel_rfl); (case h5 => decide); (case h6 => kernel_rfl); (case h7 => kernel_rfl); (case h8 => rfl); (case h9 => rfl)))
local macro_rules | `(tactic| wtm_at "sl g") => `(tactic| first
  | ((with_reducible show GJ _ (Expr.Name _ _) _ _ _ _ _); (with_reducible refine' gj_nm ?h0 ?h1 ?h2 ?h3 ?h4 ?_); (case h0 => with_reducible assumption); (case h1 => with_reducible assumption); (case h2 => kernel_rfl); (case h3 => kernel_rfl); (case h4 => kernel_rfl))
  | ((with_reducible show GJ _ (Expr.Tuple [Expr.Name _ _, Expr.Name _ _] _ _) _ _ _ _ _); (with_reducible refine' gj_tp2 ?h0 ?h1 ?h2 ?h3 ?h4 ?h5 ?h6 ?h7 ?h8 ?_); (case h0 => with_reducible assumption); (case h1 => with_reducible assumption); (case h2 => with_reducible assumption); (case h3 => kernel_rfl); (case h4 => kernel_rfl); (case h5 => kernel_rfl); (case h6 => kernel_rfl); (case h7 => kernel_rfl); (case h8 => kernel_rfl))
  | ((with_reducible show GJ _ (Expr.Tuple [Expr.Name _ _, Expr.Name _ _, Expr.Name _ _] _ _) _ _ _ _ _); (with_reducible refine' gj_tp3 ?h0 ?h1 ?h2 ?h3 ?h4 ?h5 ?h6 ?h7 ?h8 ?h9 ?i0 ?i1 ?i2 ?_); (case h0 => with_reducible assumption); (case h1 => with_reducible assumption); (case h2 => with_reducible assumption); (case h3 => with_reducible assumption); (case h4 => kernel_rfl); (case h5 => kernel_rfl); (case h6 => kernel_rfl); (case h7 => kernel_rfl); (case h8 => kernel_rfl); (case h9 => kernel_rfl); (case i0 => kernel_rfl); (case i1 => kernel_rfl); (case i2 => kernel_rfl))
  | ((with_reducible show GJ _ (Expr.Tuple _ _ _) _ _ _ _ _); (with_reducible refine' gj_tp ?h0 ?_ ?h1 ?h2 ?h3); (case h0 => with_reducible assumption); (case h1 => rfl); (case h2 => rfl); (case h3 => rfl))
  | ((with_reducible show GsJ _ (_ :: _) _ _ _ _ _); (with_reducible refine' gsj_cons ?_ ?h1); (case h1 => rfl))
  | ((with_reducible show GsJ _ [] _ _ _ _ _); refine gsj_nil ?_))
local macro_rules | `(tactic| wtm_at "sl i") => `(tactic| first
  | ((with_reducible show IJ _ _ (Expr.Name _ _) _ _ _ _); (with_reducible refine' ij_nm ?h0 ?h1 ?h2 ?h3 ?h4 ?h5 ?h6 ?_); (case h0 => with_reducible assumption); (case h1 => with_reducible assumption); (case h2 => kernel_rfl); (case h3 => kernel_rfl); (case h4 => rfl); (case h5 => kernel_rfl); (case h6 => first | assumption | exact .inl rfl | exact .inr (.inl rfl) | exact .inr (.inr rfl)))
  | ((with_reducible show IJ _ _ (Expr.Call (Expr.Name (Str.ofString "enumerate") _) [_] [] _) _ _ _ _); (with_reducible refine' ij_en ?h0 ?h1 ?h2 ?_ ?h3); (case h0 => with_reducible assumption); (case h1 => with_reducible assumption); (case h2 => kernel_rfl); (case h3 => rfl))
  | ((with_reducible show IJ _ _ (Expr.Call (Expr.Name (Str.ofString "range") _) [_] [] _) _ _ _ _); (with_reducible refine' ij_r1 ?h0 ?h1 ?h2 ?_ ?h3); (case h0 => with_reducible assumption); (case h1 => with_reducible assumption); (case h2 => kernel_rfl); (case h3 => rfl))
  | ((with_reducible show IJ _ _ (Expr.Call (Expr.Name (Str.ofString "range") _) [_, _] [] _) _ _ _ _); (with_reducible refine' ij_r2 ?h0 ?h1 ?h2 ?_ ?h3 ?h4); (case h0 => with_reducible assumption); (case h1 => with_reducible assumption); (case h2 => kernel_rfl); (case h3 => rfl); (case h4 => rfl))
  | ((with_reducible show IJ _ _ (Expr.Call (Expr.Name (Str.ofString "zip") _) [_, _] [] _) _ _ _ _); (with_reducible refine' ij_zp ?h0 ?h1 ?h2 ?_ ?h3 ?h4); (case h0 => with_reducible assumption); (case h1 => with_reducible assumption); (case h2 => kernel_rfl); (case h3 => rfl); (case h4 => rfl)))
local macro_rules | `(tactic| wtm_at "sl o") => `(tactic| first
  | ((with_reducible show OpD _ (binaryOp Operator.Add) (D.int _) (D.int _) _ _); refine od_add ?_)
  | ((with_reducible show OpD _ (inplaceOp Operator.Add) (D.int _) (D.int _) _ _); refine oi_add ?_)
  | ((with_reducible show OpD _ (binaryOp Operator.Sub) (D.int _) (D.int _) _ _); refine od_sub ?_)
  | ((with_reducible show OpD _ (inplaceOp Operator.Sub) (D.int _) (D.int _) _ _); refine oi_sub ?_)
  | ((with_reducible show OpD _ (binaryOp Operator.Mult) (D.int _) (D.int _) _ _); refine od_mulC (by first | exact .inl ⟨by omega, by omega⟩ | exact .inr ⟨by omega, by omega⟩) ?_)
  | ((with_reducible show OpD _ (binaryOp Operator.Pow) (D.int 10) (D.int 9) _ _); refine od_p9 ?_)
  | ((with_reducible show OpD _ (binaryOp Operator.Pow) (D.int 10) (D.int 12) _ _); refine od_p12 ?_)
  | ((with_reducible show OpD _ (binaryOp Operator.Pow) (D.int 10) (D.int 18) _ _); refine od_p18 ?_)
  | ((with_reducible show OpD _ (binaryOp Operator.Pow) (D.int 10) (D.int 20) _ _); refine od_p20 ?_)
  | ((with_reducible show OpD _ (compareOp CmpOp.Lt) (D.int _) (D.int _) _ _); refine od_lt ?_)
  | ((with_reducible show OpD _ (compareOp CmpOp.LtE) (D.int _) (D.int _) _ _); refine od_le ?_)
  | ((with_reducible show OpD _ (compareOp CmpOp.Gt) (D.int _) (D.int _) _ _); refine od_gt ?_)
  | ((with_reducible show OpD _ (compareOp CmpOp.GtE) (D.int _) (D.int _) _ _); refine od_ge ?_)
  | ((with_reducible show OpD _ (compareOp CmpOp.Eq) (D.int _) (D.int _) _ _); refine od_eqI ?_)
  | ((with_reducible show OpD _ (compareOp CmpOp.NotEq) (D.int _) (D.int _) _ _); refine od_neI ?_)
  | ((with_reducible show OpD _ (compareOp CmpOp.Eq) (D.str _) (D.str _) _ _); refine od_eqS ?_)
  | ((with_reducible show UnD _ _ (D.int _) _ _); refine ud_neg ?_)
  | ((with_reducible show ClD _ (Value.builtin "len") [D.lst _] _ _); refine cd_len_lst ?_)
  | ((with_reducible show ClD _ (Value.builtin "len") [D.tup _] _ _); refine cd_len_tup ?_)
  | ((with_reducible show ClD _ (Value.builtin "len") [D.fz _] _ _); refine cd_len_fz ?_)
  | ((with_reducible show ClD _ (Value.type "int") [D.int _] _ _); refine cd_intI ?_)
  | ((with_reducible show ClD _ (Value.type "int") [D.bl _] _ _); refine cd_intB ?_)
  | ((with_reducible show ClD _ (Value.builtin "isinstance") [_, D.ty _] _ _); (with_reducible refine' cd_isi ?h1 ?h2 ?_); (case h1 => first | assumption | rfl); (case h2 => decide))
  | ((with_reducible show ClD _ (Value.builtin "isinstance") [_, D.tup [D.ty _, D.ty _]] _ _); (with_reducible refine' cd_isi2 ?h1 ?h2 ?h3 ?_); (case h1 => first | assumption | rfl); (case h2 => decide); (case h3 => decide)))
local macro_rules | `(tactic| wtm_at "sl v") => `(tactic| first
  | ((with_reducible show OpD _ (binaryOp Operator.Mod) (D.int _) (D.int _) _ _); refine od_modV (by omega) fun r h0 h1 => ?_)
  | ((with_reducible show OpD _ (binaryOp Operator.FloorDiv) (D.int _) (D.int _) _ _); refine od_div (divOk_le (by omega) (by omega)) ?_))
local macro_rules | `(tactic| wtm_at "sl m") => `(tactic| first
  | ((with_reducible show IxD _ (D.raw _) (D.int _) _ _); first | refine id_own 0 rfl rfl ?_ | refine id_own 1 rfl rfl ?_ | refine id_own 2 rfl rfl ?_)
  | ((with_reducible show if true = true then _ else _); refine ite_t ?_)
  | ((with_reducible show if (!false) = true then _ else _); refine ite_nf ?_)
  | ((with_reducible show if (!true) = true then _ else _); refine ite_nt ?_)
  | ((with_reducible show if false = true then _ else _); refine ite_f ?_)
  | ((with_reducible show ∃ k, D.bl _ = D.bl k ∧ _); refine ⟨_, rfl, ?_⟩)
  | ((with_reducible show ∃ i, D.int _ = D.int i ∧ _); refine ⟨_, rfl, ?_⟩)
  | ((with_reducible show OJ _ none _ _ _ _); refine oj_none ?_)
  | ((with_reducible show OJ _ (some _) _ _ _ _); refine oj_some ?_)
  | ((with_reducible show SlD _ (D.lst _) _ _ _ _); refine sd_lst ?_)
  | ((with_reducible show SlD _ (D.fz _) _ _ _ _); refine sd_fz ?_)
  | ((with_reducible show SlD _ (D.tup _) _ _ _ _); refine sd_tup ?_)
  | ((with_reducible show List.length _ ≤ 100000 ∧ _); refine ⟨Nat.le_of_ble_eq_true rfl, ?_⟩))
local macro_rules | `(tactic| wtm_at "sl") => `(tactic| repeat (first | wtm_at "sl e" | wtm_at "sl a" | wtm_at "sl b" | wtm_at "sl f" | wtm_at "sl o" | wtm_at "sl t" | wtm_at "sl s" | wtm_at "sl m" | wtm_at "sl g" | wtm_at "sl i"))
local macro_rules | `(tactic| wtm_at "slv") => `(tactic| repeat (first | wtm_at "sl e" | wtm_at "sl a" | wtm_at "sl b" | wtm_at "sl f" | wtm_at "sl v" | wtm_at "sl o" | wtm_at "sl t" | wtm_at "sl s" | wtm_at "sl m" | wtm_at "sl g" | wtm_at "sl i"))
local macro_rules | `(tactic| wtm_at "sl in") => `(tactic| conv => arg 2; whnf)
local macro_rules | `(tactic| wtm_at "sl r0") => `(tactic| refine ⟨[], List.nil_sublist _, rfl, ?_⟩)
section
variable {X : Cx} {st : Sls} {M : Mem} {Q : DK} {E : EK} {P : Program} {w : World} {K : PySem.W.Frag} {mg : Str → Option Value} {base : Heap} {f : Addr} {fd : FuncData} {d e : D} {es : List D} {lo hi : Int} {i : Int}
theorem ite_p {p : Prop} [Decidable p] {A B : Prop} (h1 : p → A) (h2 : ¬p → B) : if p then A else B := by
  by_cases h : p
  · rw [if_pos h]; exact h1 h
  · rw [if_neg h]; exact h2 h
def isLst (d : D) : Bool := match d with
  | .lst _ => true
  | .fz _ => true
  | _ => false
theorem isLst_ty {m : String} (h : d.tyN = some m) : isN m "list" = isLst d := by
  cases d <;> cases h <;> simp [isN, isLst]
theorem isLst_ex (h : isLst d = true) : ∃ es, d.seq = some es ∧ isTup d = false := by cases d <;> first | exact ⟨_, rfl, rfl⟩ | cases h
theorem isLst_no (h : isLst d = false) : isTup d = true ∨ d.seq = none := by cases d <;> first | exact .inl rfl | exact .inr rfl | cases h
def Tame (p : D) : Prop := ∀ rows, p.seq = some rows → rows.length ≤ 1000000 ∧ ∀ r ∈ rows, ∀ es, r = .tup es → es.length ≤ 1000000
def cReqSplit (K : PySem.W.Frag) : Ct := Pc fun ds Q E => ∃ s c p, ds = [s, c, p] ∧ s.kd 1 ∧ c.kd 1 ∧ p.kd 2 ∧ Tame p ∧ match splitErr s c p with
  | none => Q .non
  | some e => E (e.er K)
theorem use_reqRounds (hk : d.kd 1) (q : roundsErr d = none → Q .non M) (r : ∀ i, roundsErr d = some i → E ((Err.sched i).er K) st M) : CtJ (cReqRounds K) 1 [d] st M Q E := by
  refine ctj_p ⟨_, rfl, hk, ?_⟩
  cases h : roundsErr d with
  | none => exact q h
  | some i => exact r i h
theorem use_small {g : Int} (hs : d.seq = some (.int g :: es)) (q : g ≤ 1000 → Q .non M) (r : ¬ g ≤ 1000 → E ((Err.large 1000).er K) st M) : CtJ (cSmall K) 1 [d] st M Q E :=
  ctj_p ⟨_, _, _, rfl, hs, ite_p q r⟩
def rowI (e : D) : List Int := match e with
  | .tup cs => cs.map D.val
  | _ => []
theorem rowsOf_eq (rows : List D) : rowsOf rows = rows.map rowI := rfl
theorem val_int (cs : List Int) : (cs.map D.int).map D.val = cs := by simp [D.val, Function.comp_def]
theorem rng_mem {n : Nat} (h : d ∈ rngD 0 n) : ∃ k : Nat, d = .int k ∧ k < n := by
  obtain ⟨j, hj⟩ := List.mem_iff_getElem?.mp h
  obtain ⟨h1, h2⟩ := rngD_get hj
  exact ⟨j, by simpa using h2, h1⟩
theorem ok_lst (cs : List Int) : D.ok (.lst (cs.map .int)) 64 = true := by
  simp [D.ok, oks_ints]
theorem f_require_split (F : FunD K "require_split" "require_split" (defArgs s_require_split) (defBody s_require_split) (defScope s_require_split) [] [] f fd) (B : Bs mg) (h1 : FnI P w K mg base 4 "require_rounds" p_require_rounds (cReqRounds K)) (h2 : FnI P w K mg base 4 "require_counts" p_require_counts (cReqCounts K)) (h3 : FnI P w K mg base 3 "require_small_round" p_require_small_round (cSmall K)) (h4 : FnI P w K mg base 3 "is_group" p_is_group cIsGrp) (x1 : ExcI P w K mg base "InvalidSplit" "index" (He.ga K "InvalidSplit")) : FnOk P w K mg base (L2.CX P w) 5 f fd p_require_split (spOf K 3 (cReqSplit K)) := by
  refine fn_rule F sc_require_split fun X hX ds M Q E hl hc => ?_
  have cf := hX.cf sc_require_split
  clear hX hl F
  obtain ⟨n0, n1, n2, n3, n4, _⟩ := nms_require_split
  obtain ⟨b1, b2, b3, b4, b5, b6, b7, b8, b9, b10, b11, b12, b13, b14, b15, b16, b17, b18, b19⟩ := B
  refine body_p hc fun Q' E' ⟨s, c, p, e, ks, kc, kp, tp, hq⟩ => ?_
  clear hc
  subst e
  wtm_at "sl in"
  wtm_at "sl"
  refine use_reqRounds ks (fun hr => ?_) (fun i hr => ?_)
  rotate_left
  · wtm_at "sl r0"
    simpa [splitErr, hr] using hq
  obtain ⟨g, ns, hs, hl, hge⟩ := roundsErr_ex hr
  wtm_at "sl"
  refine use_reqCounts kc (fun hcn => ?_) (fun hcn => ?_)
  rotate_left
  · wtm_at "sl r0"
    simpa [splitErr, hr, hcn] using hq
  obtain ⟨cs, rfl, hcl, hcge⟩ := countsOk_ex hcn
  simp only [splitErr, hr, hcn, hs, if_pos, List.map_cons] at hq
  wtm_at "sl"
  refine use_small hs (fun hg => ?_) (fun hg => ?_)
  rotate_left
  · wtm_at "sl r0"
    have hg' : 1000 < g := by omega
    cases hp : p.seq with
    | none => simpa [hp, hg'] using hq
    | some rows => simpa [hp, hg'] using hq
  have hg' : ¬ 1000 < g := by omega
  obtain ⟨m, hm⟩ := kp.1
  wtm_at "sl"
  rw [isLst_ty hm]
  refine ite_b (fun h => ?_) (fun h => ?_)
  · wtm_at "sl"
    wtm_at "sl r0"
    rcases isLst_no (by simpa using h) with ht | hn
    · cases hp : p.seq with
      | none => simp [hp, hg'] at hq; exact hq
      | some rows => simp [hp, hg', ht] at hq; exact hq
    · simp [hn, hg'] at hq; exact hq
  · obtain ⟨rows, hp, ht⟩ := isLst_ex (by simpa using h)
    obtain ⟨tl, tr⟩ := tp rows hp
    simp only [hp, if_neg hg', ht, Bool.false_eq_true, false_or] at hq
    wtm_at "sl"
    refine cd_len_seq hp ?_
    wtm_at "sl"
    refine id_seq hs atI_zero ?_
    wtm_at "sl"
    refine ite_ndec (fun hn => ?_) (fun hn => ?_)
    · wtm_at "sl"
      wtm_at "sl r0"
      rw [if_pos hn] at hq
      exact hq
    · rw [if_neg (fun z => z hn)] at hq
      wtm_at "sl"
      refine' sj_cons (s1_fr cf (fun i st' M' => (∃ a b, st' = [some s, some (.tup (cs.map .int)), some p, a, b]) ∧ M' = [] ∧ ∀ (j : Nat) (x : D), j < i → rows[j]? = some x → isGrp x cs.length = true) ?_)
      wtm_at "sl"
      refine ⟨p, rows, rfl, seq_cases hp, ⟨⟨none, none, rfl⟩, rfl, fun j x hj => absurd hj (Nat.not_lt_zero _)⟩, fun i x st' M' hx ⟨⟨a, b, e1⟩, e2, hall⟩ => ?_, fun st' M' ⟨⟨a, b, e1⟩, e2, hall⟩ => ?_⟩
      · subst e1 e2
        obtain ⟨e, he, rfl⟩ := enumF_get hx
        have hmem := List.mem_of_getElem? he
        wtm_at "sl"
        rw [List.length_map]
        refine use_isGrp (kp.2 rows hp e hmem) (tr e hmem) ?_
        wtm_at "sl"
        refine ite_b (fun h4 => ?_) (fun h4 => ?_)
        · wtm_at "sl"
          wtm_at "sl r0"
          have := findIdx_at (p := fun x => isGrp x cs.length) he (by simpa using h4) hall
          rw [List.length_map, this] at hq
          simp at hq
          rw [Int.zero_add]
          exact hq
        · wtm_at "sl"
          refine ⟨⟨_, _, rfl⟩, rfl, fun j x hj hx2 => ?_⟩
          rcases Nat.lt_succ_iff_lt_or_eq.mp hj with hj | rfl
          · exact hall j x hj hx2
          · rw [he] at hx2
            cases hx2
            simpa using h4
      · subst e1 e2
        rw [enumF_len] at hall
        have hno := findIdx_no (p := fun x => isGrp x cs.length) hall
        rw [List.length_map, hno] at hq
        have hrow : ∀ x ∈ rows, ∃ r : List Int, x = .tup (r.map .int) ∧ r.length = cs.length := fun x hx => by
          obtain ⟨j, hj⟩ := List.mem_iff_getElem?.mp hx
          obtain ⟨r, h1, h2, _⟩ := isGrp_ex (hall j x (List.getElem?_eq_some_iff.mp hj).1 hj)
          exact ⟨r, h1, h2⟩
        wtm_at "sl"
        refine ej_cp [("index", 3)] cf (by kernel_rfl) ?_
        wtm_at "sl"
        rw [List.length_map]
        refine ⟨_, rfl, ⟨by omega, by omega⟩, ?_⟩
        rw [show (cs.length : Int).toNat = cs.length by omega]
        refine lcj_map (fun d => .int (rows.map fun r => (rowI r).getD d.val.toNat 0).sum) [3] (by decide) (by rw [rngD_len]; omega) (fun d hd Y hY => ?_) ?_
        · obtain ⟨k, rfl, hk⟩ := rng_mem hd
          have cf1 := cf.blk hY
          wtm_at "sl"
          refine ⟨rfl, fun Y2 hY2 => ?_⟩
          have cf2 := cf.blk hY2
          wtm_at "sl"
          refine ej_cp [("group", 4)] cf2 (by kernel_rfl) ?_
          have hpp := seq_cases hp
          wtm_at "sl"
          refine lcj_map (fun r => .int ((rowI r).getD k 0)) [4] (by decide) tl (fun r hr Y3 hY3 => ?_) ?_
          · have cf3 := cf2.blk hY3
            obtain ⟨ri, rfl, hri⟩ := hrow r hr
            wtm_at "sl"
            refine ⟨rfl, fun Y4 hY4 => ?_⟩
            have cf4 := cf2.blk hY4
            wtm_at "sl"
            refine id_tup (atI_nat (j := k) (by rw [List.getElem?_map, List.getElem?_eq_getElem (by omega)]; rfl)) ?_
            refine ⟨?_, rfl⟩
            simp [rowI, val_int, List.getD, hri, hk]
            rfl
          · wtm_at "sl"
            rw [show (rows.map fun r => D.int ((rowI r).getD k 0)) = (rows.map fun r => (rowI r).getD k 0).map D.int by simp]
            refine cd_sum cf2.calm ?_
            exact ⟨by simp [D.val], rfl⟩
        · wtm_at "sl"
          refine cd_list (.inr (.inr rfl)) ?_
          have e3 : ((rngD 0 cs.length).map fun d => D.int (rows.map fun r => (rowI r).getD d.val.toNat 0).sum) = (colSums (rowsOf rows) cs.length).map D.int := by
            simp [rngD, colSums, rowsOf_eq, D.val, Function.comp_def]
          rw [e3]
          refine od_ne (ok_lst _) (ok_lst _) ?_
          rw [eqv_lst_ints]
          wtm_at "sl"
          refine ite_ndec (fun h5 => ?_) (fun h5 => ?_)
          · wtm_at "sl"
            refine id_seq hs atI_zero ?_
            wtm_at "sl r0"
            rw [val_int, if_neg h5] at hq
            exact hq
          · wtm_at "sl"
            wtm_at "sl r0"
            rw [val_int, if_pos h5] at hq
            exact hq

end
end SL

set_option maxHeartbeats 2000000
namespace SL
open PySem PySem.Spec PyProof.Rows L2 Evl
local macro_rules | `(tactic| wtm_at "sl e") => `(tactic| first
  | ((with_reducible show EJ _ (Expr.Name _ _) _ _ _ _); first | ((with_reducible refine' ej_nm ?h0 ?h1 ?h2 ?h3 ?h4 ?h5 ?_); (case h0 => with_reducible assumption); (case h1 => with_reducible assumption); (case h2 => kernel_rfl); (case h3 => kernel_rfl); (case h4 => rfl); (case h5 => kernel_rfl)) | ((with_reducible refine' ej_cn ?h0 ?h1 ?h2 ?_); (case h0 => with_reducible assumption); (case h1 => with_reducible assumption); (case h2 => kernel_rfl)) | ((with_reducible refine' ej_ty ?h0 ?h1 ?h2 ?_); (case h0 => with_reducible assumption); (case h1 => with_reducible assumption); (case h2 => kernel_rfl)))
  | ((with_reducible show EJ _ (Expr.Constant (Const.int _) _ _) _ _ _ _); refine ej_int ?_)
  | ((with_reducible show EJ _ (Expr.Constant (Const.str _) _ _) _ _ _ _); refine ej_str ?_)
  | ((with_reducible show EJ _ (Expr.Constant (Const.bool _) _ _) _ _ _ _); refine ej_bl ?_)
  | ((with_reducible show EJ _ (Expr.Constant Const.none _ _) _ _ _ _); refine ej_non ?_)
  | ((with_reducible show EJ _ (Expr.BinOp _ _ _ _) _ _ _ _); refine ej_op ?_)
  | ((with_reducible show EJ _ (Expr.UnaryOp UnaryOp.Not _ _) _ _ _ _); refine ej_not ?_)
  | ((with_reducible show EJ _ (Expr.UnaryOp _ _ _) _ _ _ _); refine ej_un ?_)
  | ((with_reducible show EJ _ (Expr.Tuple _ _ _) _ _ _ _); refine ej_tup ?_)
  | ((with_reducible show EJ _ (Expr.BoolOp _ [_] _) _ _ _ _); refine ej_one ?_)
  | ((with_reducible show EJ _ (Expr.BoolOp BoolOp.And _ _) _ _ _ _); refine ej_and ?_)
  | ((with_reducible show EJ _ (Expr.BoolOp BoolOp.Or _ _) _ _ _ _); refine ej_or ?_)
  | ((with_reducible show EJ _ (Expr.IfExp _ _ _ _) _ _ _ _); refine ej_if ?_)
  | ((with_reducible show EJ _ (Expr.Compare _ [_] _ _) _ _ _ _); (with_reducible refine' ej_cmp ?_ ?h1); (case h1 => first | exact nomark _ | rfl))
  | ((with_reducible show EJ _ (Expr.Compare _ [_, _] _ _) _ _ _ _); (with_reducible refine' ej_chain ?_ ?h1); (case h1 => rfl))
  | ((with_reducible show EJ _ (Expr.Subscript _ (Expr.Slice _ _ _ _) _) _ _ _ _); refine ej_slice ?_)
  | ((with_reducible show EJ _ (Expr.Subscript _ _ _) _ _ _ _); (with_reducible refine' ej_ix ?_ ?h1); (case h1 => intro _ _; rfl))
  | ((with_reducible show EJ _ (Expr.Call (Expr.Name _ _) (_ :: _) [] _) _ _ _ _); first | ((with_reducible refine' ej_cB ?h0 ?h1 ?h2 ?_ ?h3 ?h4); (case h0 => with_reducible assumption); (case h1 => with_reducible assumption); (case h2 => kernel_rfl); (case h3 => rfl); (case h4 => rfl)) | ((with_reducible refine' ej_cT ?h0 ?h1 ?h2 ?_ ?h3 ?h4); (case h0 => with_reducible assumption); (case h1 => with_reducible assumption); (case h2 => kernel_rfl); (case h3 => rfl); (case h4 => rfl)) | ((with_reducible refine' ej_fn ?h0 ?h1 ?h2 ?h3 ?h4 ?_ ?h5 ?h6); (case h0 => with_reducible assumption); (case h1 => with_reducible assumption); (case h2 => kernel_rfl); (case h3 => kernel_rfl); (case h4 => kernel_rfl); (case h5 => rfl); (case h6 => rfl)) | ((with_reducible refine' ej_mk ?h0 ?h1 ?h2 ?h3 ?h4 ?_ ?h5 ?h6); (case h0 => with_reducible assumption); (case h1 => with_reducible assumption); (case h2 => kernel_rfl); (case h3 => kernel_rfl); (case h4 => kernel_rfl); (case h5 => rfl); (case h6 => rfl))))
local macro_rules | `(tactic| wtm_at "sl f") => `(tactic| first
  | ((with_reducible show EJ _ (Expr.Attribute _ _ _) _ _ _ _); (with_reducible refine' ej_fl ?h0 ?h1 ?h2 ?_ ?h3); (case h0 => with_reducible assumption); (case h1 => with_reducible assumption); (case h2 => with_reducible assumption); (case h3 => rfl))
  | ((with_reducible show SJ _ (Stmt.Assign [Expr.Attribute _ _ _] _ _ :: _) _ _ _); (with_reducible refine' sj_cons (s1_fl ?h0 ?h1 ?h2 ?_ ?h3)); (case h0 => with_reducible assumption); (case h1 => with_reducible assumption); (case h2 => with_reducible assumption); (case h3 => rfl))
  | ((with_reducible show EJ _ (Expr.Call (Expr.Attribute _ _ _) (_ :: _) [] _) _ _ _ _); (with_reducible refine' ej_mt ?h0 ?h1 ?h2 ?_ ?h3 ?h4 ?h5); (case h0 => with_reducible assumption); (case h1 => with_reducible assumption); (case h2 => kernel_rfl); (case h3 => rfl); (case h4 => rfl); (case h5 => rfl))
  | ((with_reducible show EJ _ (Expr.Call (Expr.Attribute _ _ _) [] [] _) _ _ _ _); (with_reducible refine' ej_mt0 ?h0 ?h1 ?h2 ?_ ?h3); (case h0 => with_reducible assumption); (case h1 => with_reducible assumption); (case h2 => kernel_rfl); (case h3 => rfl)))
local macro_rules | `(tactic| wtm_at "sl b") => `(tactic| first
  | ((with_reducible show EJ _ (Expr.Call (Expr.Attribute _ (Str.ofString "append") _) (_ :: _) [] _) _ _ _ _); (with_reducible refine' ej_bm PySem.F.plainAttrs_list PySem.F.slot_list_append PySem.F.type_list_append ?_ ?h1 ?h2 ?h3 ?h4 ?h5); (case h1 => rfl); (case h2 => rfl); (case h3 => rfl); (case h4 => rfl); (case h5 => rfl))
  | ((with_reducible show EJ _ (Expr.Call (Expr.Attribute _ (Str.ofString "extend") _) (_ :: _) [] _) _ _ _ _); (with_reducible refine' ej_bm PySem.F.plainAttrs_list PySem.F.slot_list_extend PySem.F.type_list_extend ?_ ?h1 ?h2 ?h3 ?h4 ?h5); (case h1 => rfl); (case h2 => rfl); (case h3 => rfl); (case h4 => rfl); (case h5 => rfl))
  | ((with_reducible show EJ _ (Expr.Call (Expr.Attribute _ (Str.ofString "pop") _) (_ :: _) [] _) _ _ _ _); (with_reducible refine' ej_bm PySem.F.plainAttrs_list PySem.F.slot_list_pop PySem.F.type_list_pop ?_ ?h1 ?h2 ?h3 ?h4 ?h5); (case h1 => rfl); (case h2 => rfl); (case h3 => rfl); (case h4 => rfl); (case h5 => rfl))
  | ((with_reducible show EJ _ (Expr.Call (Expr.Attribute _ (Str.ofString "pop") _) [] [] _) _ _ _ _); (with_reducible refine' ej_bm0 PySem.F.plainAttrs_list PySem.F.slot_list_pop PySem.F.type_list_pop ?_ ?h1 ?h2); (case h1 => rfl); (case h2 => rfl))
  | ((with_reducible show EJ _ (Expr.Call (Expr.Attribute _ (Str.ofString "reverse") _) [] [] _) _ _ _ _); (with_reducible refine' ej_bm0 PySem.F.plainAttrs_list PySem.F.slot_list_reverse PySem.F.type_list_reverse ?_ ?h1 ?h2); (case h1 => rfl); (case h2 => rfl))
  | ((with_reducible show EJ _ (Expr.Call (Expr.Attribute _ (Str.ofString "clear") _) [] [] _) _ _ _ _); (with_reducible refine' ej_bm0 PySem.F.plainAttrs_list PySem.F.slot_list_clear PySem.F.type_list_clear ?_ ?h1 ?h2); (case h1 => rfl); (case h2 => rfl))
  | ((with_reducible show EJ _ (Expr.Call (Expr.Attribute _ (Str.ofString "index") _) (_ :: _) [] _) _ _ _ _); (with_reducible refine' ej_bm PySem.F.plainAttrs_list PySem.F.slot_list_index PySem.F.type_list_index ?_ ?h1 ?h2 ?h3 ?h4 ?h5); (case h1 => rfl); (case h2 => rfl); (case h3 => rfl); (case h4 => rfl); (case h5 => rfl))
  | ((with_reducible show HasTy _ _ (D.raw _) _ ∧ _); first | refine ⟨ty_own 0 rfl, ?_⟩ | refine ⟨ty_own 1 rfl, ?_⟩ | refine ⟨ty_own 2 rfl, ?_⟩)
  | ((with_reducible show HasTy _ _ (D.lst _) _ ∧ _); refine ⟨ty_lst, ?_⟩))
local macro_rules | `(tactic| wtm_at "sl a") => `(tactic| first
  | ((with_reducible show AJ _ [] _ _ _ _); refine aj_nil ?_)
  | ((with_reducible show AJ _ (_ :: _) _ _ _ _); (with_reducible refine' aj_cons ?_ ?h1); (case h1 => rfl)))
local macro_rules | `(tactic| wtm_at "sl t") => `(tactic| first
  | ((with_reducible show TJ _ (Expr.UnaryOp UnaryOp.Not _ _) _ _ _ _); refine tj_not ?_)
  | ((with_reducible show TJ _ (Expr.BoolOp _ _ _) _ _ _ _); refine tjs_of ?_)
  | ((with_reducible show TJ _ (Expr.Compare _ [_] _ _) _ _ _ _); (with_reducible refine' tj_cmp ?_ ?h1); (case h1 => first | exact nomark _ | rfl))
  | ((with_reducible show TJ _ (Expr.Compare _ [_, _] _ _) _ _ _ _); (with_reducible refine' tj_chain ?_ ?h1); (case h1 => rfl))
  | ((with_reducible show TJ _ (_) _ _ _ _); (with_reducible refine' tj_b ?_ ?h1); (case h1 => intro _; rfl))
  | ((with_reducible show TJs _ BoolOp.And (_ :: _ :: _) _ _ _ _ _); refine tjs_and ?_)
  | ((with_reducible show TJs _ BoolOp.Or (_ :: _ :: _) _ _ _ _ _); refine tjs_or ?_)
  | ((with_reducible show TJs _ _ [_] _ _ _ _ _); refine tjs_one ?_))
local macro_rules | `(tactic| wtm_at "sl s") => `(tactic| first
  | ((with_reducible show SJ _ [] _ _ _); refine sj_nil ?_)
  | ((with_reducible show SJ _ (Stmt.Return (some _) _ :: _) _ _ _); refine sj_cons (s1_ret ?_))
  | ((with_reducible show SJ _ (Stmt.Return none _ :: _) _ _ _); refine sj_cons (s1_retN ?_))
  | ((with_reducible show SJ _ (Stmt.If _ _ _ _ :: _) _ _ _); refine sj_cons (s1_if ?_))
  | ((with_reducible show SJ _ (Stmt.Pass _ :: _) _ _ _); refine sj_cons (s1_pass ?_))
  | ((with_reducible show SJ _ (Stmt.Break _ :: _) _ _ _); refine sj_cons (s1_break ?_))
  | ((with_reducible show SJ _ (Stmt.Continue _ :: _) _ _ _); refine sj_cons (s1_cont ?_))
  | ((with_reducible show SJ _ (Stmt.Assign [Expr.Subscript _ _ _] _ _ :: _) _ _ _); (with_reducible refine' sj_cons (s1_setI ?_ ?h1 ?h2 ?h3 ?h4)); (case h1 => intro _; rfl); (case h2 => rfl); (case h3 => rfl); (case h4 => rfl))
  | ((with_reducible show SJ _ (Stmt.Expr _ _ :: _) _ _ _); refine sj_cons (s1_expr ?_))
  | ((with_reducible show SJ _ (Stmt.Raise _ _ _ :: _) _ _ _); (with_reducible refine' sj_cons (s1_rs ?h0 ?h1 ?h2 ?h3 ?h4 ?_ ?h5 ?h6)); (case h0 => with_reducible assumption); (case h1 => with_reducible assumption); (case h2 => kernel_rfl); (case h3 => kernel_rfl); (case h4 => kernel_rfl); (case h5 => rfl); (case h6 => rfl))
  | ((with_reducible show SJ _ (Stmt.Assign [Expr.Name _ _] _ _ :: _) _ _ _); (with_reducible refine' sj_cons (s1_nm ?h0 ?h1 ?h2 ?h3 ?h4 ?_ ?h5)); (case h0 => with_reducible assumption); (case h1 => with_reducible assumption); (case h2 => kernel_rfl); (case h3 => kernel_rfl); (case h4 => kernel_rfl); (case h5 => rfl))
  | ((with_reducible show SJ _ (Stmt.AugAssign (Expr.Name _ _) _ _ _ :: _) _ _ _); (with_reducible refine' sj_cons (s1_ag ?h0 ?h1 ?h2 ?h3 ?h4 ?h5 ?_)); (case h0 => with_reducible assumption); (case h1 => with_reducible assumption); (case h2 => kernel_rfl); (case h3 => kernel_rfl); (case h4 => kernel_rfl); (case h5 => rfl))
  | ((with_reducible show SJ _ (Stmt.Assign [Expr.Tuple _ _ _] (Expr.Call _ _ _ _) _ :: _) _ _ _); (with_reducible refine' sj_cons (s1_asg ?_ ?h1 ?h2 ?h3)); (case h1 => rfl); (case h2 => rfl); (case h3 => rfl))
  | ((with_reducible show SJ _ (Stmt.Assign [Expr.Tuple [Expr.Name _ _, Expr.Name _ _] _ _] (Expr.Tuple [_, _] _ _) _ :: _) _ _ _); (with_reducible refine' sj_cons (s1_pr ?h0 ?h1 ?h2 ?h3 ?h4 ?h5 ?h6 ?h7 ?_ ?h8 ?h9)); (case h0 => with_reducible assumption); (case h1 => with_reducible assumption); (case h2 => with_reducible assumption); (case h3 => kernel_rfl); (case h4 => kernel_rfl); (case h5 => decide); (case h6 => kernel_rfl); (case h7 => kernel_rfl); (case h8 => rfl); (case h9 => rfl)))
local macro_rules | `(tactic| wtm_at "sl g") => `(tactic| first
  | ((with_reducible show GJ _ (Expr.Name _ _) _ _ _ _ _); (with_reducible refine' gj_nm ?h0 ?h1 ?h2 ?h3 ?h4 ?_); (case h0 => with_reducible assumption); (case h1 => with_reducible assumption); (case h2 => kernel_rfl); (case h3 => kernel_rfl); (case h4 => kernel_rfl))
  | ((with_reducible show GJ _ (Expr.Tuple [Expr.Name _ _, Expr.Name _ _] _ _) _ _ _ _ _); (with_reducible refine' gj_tp2 ?h0 ?h1 ?h2 ?h3 ?h4 ?h5 ?h6 ?h7 ?h8 ?_); (case h0 => with_reducible assumption); (case h1 => with_reducible assumption); (case h2 => with_reducible assumption); (case h3 => kernel_rfl); (case h4 => kernel_rfl); (case h5 => kernel_rfl); (case h6 => kernel_rfl); (case h7 => kernel_rfl); (case h8 => kernel_rfl))
  | ((with_reducible show GJ _ (Expr.Tuple [Expr.Name _ _, Expr.Name _ _, Expr.Name _ _] _ _) _ _ _ _ _); (with_reducible refine' gj_tp3 ?h0 ?h1 ?h2 ?h3 ?h4 ?h5 ?h6 ?h7 ?h8 ?h9 ?i0 ?i1 ?i2 ?_); (case h0 => with_reducible assumption); (case h1 => with_reducible assumption); (case h2 => with_reducible assumption); (case h3 => with_reducible assumption); (case h4 => kernel_rfl); (case h5 => kernel_rfl); (case h6 => kernel_rfl); (case h7 => kernel_rfl); (case h8 => kernel_rfl); (case h9 => kernel_rfl); (case i0 => kernel_rfl); (case i1 => kernel_rfl); (case i2 => kernel_rfl))
  | ((with_reducible show GJ _ (Expr.Tuple _ _ _) _ _ _ _ _); (with_reducible refine' gj_tp ?h0 ?_ ?h1 ?h2 ?h3); (case h0 => with_reducible assumption); (case h1 => rfl); (case h2 => rfl); (case h3 => rfl))
  | ((with_reducible show GsJ _ (_ :: _) _ _ _ _ _); (with_reducible refine' gsj_cons ?_ ?h1); (case h1 => rfl))
  | ((with_reducible show GsJ _ [] _ _ _ _ _); refine gsj_nil ?_))
local macro_rules | `(tactic| wtm_at "sl i") => `(tactic| first
  | ((with_reducible show IJ _ _ (Expr.Name _ _) _ _ _ _); (with_reducible refine' ij_nm ?h0 ?h1 ?h2 ?h3 ?h4 ?h5 ?h6 ?_); (case h0 => with_reducible assumption); (case h1 => with_reducible assumption); (case h2 => kernel_rfl); (case h3 => kernel_rfl); (case h4 => rfl); (case h5 => kernel_rfl); (case h6 => first | assumption | exact .inl rfl | exact .inr (.inl rfl) | exact .inr (.inr rfl)))
  | ((with_reducible show IJ _ _ (Expr.Call (Expr.Name (Str.ofString "enumerate") _) [_] [] _) _ _ _ _); (with_reducible refine' ij_en ?h0 ?h1 ?h2 ?_ ?h3); (case h0 => with_reducible assumption); (case h1 => with_reducible assumption); (case h2 => kernel_rfl); (case h3 => rfl))
  | ((with_reducible show IJ _ _ (Expr.Call (Expr.Name (Str.ofString "range") _) [_] [] _) _ _ _ _); (with_reducible refine' ij_r1 ?h0 ?h1 ?h2 ?_ ?h3); (case h0 => with_reducible assumption); (case h1 => with_reducible assumption); (case h2 => kernel_rfl); (case h3 => rfl))
  | ((with_reducible show IJ _ _ (Expr.Call (Expr.Name (Str.ofString "range") _) [_, _] [] _) _ _ _ _); (with_reducible refine' ij_r2 ?h0 ?h1 ?h2 ?_ ?h3 ?h4); (case h0 => with_reducible assumption); (case h1 => with_reducible assumption); (case h2 => kernel_rfl); (case h3 => rfl); (case h4 => rfl))
  | ((with_reducible show IJ _ _ (Expr.Call (Expr.Name (Str.ofString "zip") _) [_, _] [] _) _ _ _ _); (with_reducible refine' ij_zp ?h0 ?h1 ?h2 ?_ ?h3 ?h4); (case h0 => with_reducible assumption); (case h1 => with_reducible assumption); (case h2 => kernel_rfl); (case h3 => rfl); (case h4 => rfl)))
local macro_rules | `(tactic| wtm_at "sl o") => `(tactic| first
  | ((with_reducible show OpD _ (binaryOp Operator.Add) (D.int _) (D.int _) _ _); refine od_add ?_)
  | ((with_reducible show OpD _ (inplaceOp Operator.Add) (D.int _) (D.int _) _ _); refine oi_add ?_)
  | ((with_reducible show OpD _ (binaryOp Operator.Sub) (D.int _) (D.int _) _ _); refine od_sub ?_)
  | ((with_reducible show OpD _ (inplaceOp Operator.Sub) (D.int _) (D.int _) _ _); refine oi_sub ?_)
  | ((with_reducible show OpD _ (binaryOp Operator.Mult) (D.int _) (D.int _) _ _); refine od_mulC (by first | exact .inl ⟨by omega, by omega⟩ | exact .inr ⟨by omega, by omega⟩) ?_)
  | ((with_reducible show OpD _ (binaryOp Operator.Pow) (D.int 10) (D.int 9) _ _); refine od_p9 ?_)
  | ((with_reducible show OpD _ (binaryOp Operator.Pow) (D.int 10) (D.int 12) _ _); refine od_p12 ?_)
  | ((with_reducible show OpD _ (binaryOp Operator.Pow) (D.int 10) (D.int 18) _ _); refine od_p18 ?_)
  | ((with_reducible show OpD _ (binaryOp Operator.Pow) (D.int 10) (D.int 20) _ _); refine od_p20 ?_)
  | ((with_reducible show OpD _ (compareOp CmpOp.Lt) (D.int _) (D.int _) _ _); refine od_lt ?_)
  | ((with_reducible show OpD _ (compareOp CmpOp.LtE) (D.int _) (D.int _) _ _); refine od_le ?_)
  | ((with_reducible show OpD _ (compareOp CmpOp.Gt) (D.int _) (D.int _) _ _); refine od_gt ?_)
  | ((with_reducible show OpD _ (compareOp CmpOp.GtE) (D.int _) (D.int _) _ _); refine od_ge ?_)
  | ((with_reducible show OpD _ (compareOp CmpOp.Eq) (D.int _) (D.int _) _ _); refine od_eqI ?_)
  | ((with_reducible show OpD _ (compareOp CmpOp.NotEq) (D.int _) (D.int _) _ _); refine od_neI ?_)
  | ((with_reducible show OpD _ (compareOp CmpOp.Eq) (D.str _) (D.str _) _ _); refine od_eqS ?_)
  | ((with_reducible show UnD _ _ (D.int _) _ _); refine ud_neg ?_)
  | ((with_reducible show ClD _ (Value.builtin "len") [D.lst _] _ _); refine cd_len_lst ?_)
  | ((with_reducible show ClD _ (Value.builtin "len") [D.tup _] _ _); refine cd_len_tup ?_)
  | ((with_reducible show ClD _ (Value.builtin "len") [D.fz _] _ _); refine cd_len_fz ?_)
  | ((with_reducible show ClD _ (Value.type "int") [D.int _] _ _); refine cd_intI ?_)
  | ((with_reducible show ClD _ (Value.type "int") [D.bl _] _ _); refine cd_intB ?_)
  | ((with_reducible show ClD _ (Value.builtin "isinstance") [_, D.ty _] _ _); (with_reducible refine' cd_isi ?h1 ?h2 ?_); (case h1 => first | assumption | rfl); (case h2 => decide))
  | ((with_reducible show ClD _ (Value.builtin "isinstance") [_, D.tup [D.ty _, D.ty _]] _ _); (with_reducible refine' cd_isi2 ?h1 ?h2 ?h3 ?_); (case h1 => first | assumption | rfl); (case h2 => decide); (case h3 => decide)))
local macro_rules | `(tactic| wtm_at "sl v") => `(tactic| first
  | ((with_reducible show OpD _ (binaryOp Operator.Mod) (D.int _) (D.int _) _ _); refine od_modV (by omega) fun r h0 h1 => ?_)
  | ((with_reducible show OpD _ (binaryOp Operator.FloorDiv) (D.int _) (D.int _) _ _); refine od_div (divOk_le (by omega) (by omega)) ?_))
local macro_rules | `(tactic| wtm_at "sl m") => `(tactic| first
  | ((with_reducible show IxD _ (D.raw _) (D.int _) _ _); first | refine id_own 0 rfl rfl ?_ | refine id_own 1 rfl rfl ?_ | refine id_own 2 rfl rfl ?_)
  | ((with_reducible show if true = true then _ else _); refine ite_t ?_)
  | ((with_reducible show if (!false) = true then _ else _); refine ite_nf ?_)
  | ((with_reducible show if (!true) = true then _ else _); refine ite_nt ?_)
  | ((with_reducible show if false = true then _ else _); refine ite_f ?_)
  | ((with_reducible show ∃ k, D.bl _ = D.bl k ∧ _); refine ⟨_, rfl, ?_⟩)
  | ((with_reducible show ∃ i, D.int _ = D.int i ∧ _); refine ⟨_, rfl, ?_⟩)
  | ((with_reducible show OJ _ none _ _ _ _); refine oj_none ?_)
  | ((with_reducible show OJ _ (some _) _ _ _ _); refine oj_some ?_)
  | ((with_reducible show SlD _ (D.lst _) _ _ _ _); refine sd_lst ?_)
  | ((with_reducible show SlD _ (D.fz _) _ _ _ _); refine sd_fz ?_)
  | ((with_reducible show SlD _ (D.tup _) _ _ _ _); refine sd_tup ?_)
  | ((with_reducible show List.length _ ≤ 100000 ∧ _); refine ⟨Nat.le_of_ble_eq_true rfl, ?_⟩))
local macro_rules | `(tactic| wtm_at "sl") => `(tactic| repeat (first | wtm_at "sl e" | wtm_at "sl a" | wtm_at "sl b" | wtm_at "sl f" | wtm_at "sl o" | wtm_at "sl t" | wtm_at "sl s" | wtm_at "sl m" | wtm_at "sl g" | wtm_at "sl i"))
local macro_rules | `(tactic| wtm_at "slv") => `(tactic| repeat (first | wtm_at "sl e" | wtm_at "sl a" | wtm_at "sl b" | wtm_at "sl f" | wtm_at "sl v" | wtm_at "sl o" | wtm_at "sl t" | wtm_at "sl s" | wtm_at "sl m" | wtm_at "sl g" | wtm_at "sl i"))
local macro_rules | `(tactic| wtm_at "sl in") => `(tactic| conv => arg 2; whnf)
local macro_rules | `(tactic| wtm_at "sl r0") => `(tactic| refine ⟨[], List.nil_sublist _, rfl, ?_⟩)
section
variable {X : Cx} {st : Sls} {M : Mem} {Q : DK} {E : EK} {P : Program} {w : World} {K : PySem.W.Frag} {mg : Str → Option Value} {base : Heap} {f : Addr} {fd : FuncData} {d e : D} {es : List D} {lo hi : Int} {i : Int}
/-- one rung nearer -/
def nearer (cs : List Int) : Int × List Int := match cs with
  | [] => (0, [])
  | c :: cs => (c, cs ++ [0])
def cClimbed : Ct := Pc fun ds Q _ => ∃ cs : List Int, ds = [.tup (cs.map .int)] ∧ cs.length ≤ 1000 ∧ Q (.tup [.int (nearer cs).1, .tup ((nearer cs).2.map .int)])
theorem cut1 (x : D) (xs : List D) : cutD (x :: xs) (some 1) none = xs := by
  unfold cutD
  have h1 : HT.sIx (x :: xs).length 0 (some 1) = 1 := by simp [HT.sIx]
  have h2 : HT.sIx (x :: xs).length (x :: xs).length none = (x :: xs).length := rfl
  rw [h1, h2]
  simp
/-- what a right split is -/
theorem splitErr_ex {s c p : D} (h : splitErr s c p = none) : ∃ (g : Int) (ns cs : List Int) (rows : List D), s.seq = some ((g :: ns).map D.int) ∧ (g :: ns).length ≤ 200 ∧ (∀ z ∈ g :: ns, 2 ≤ z) ∧ g ≤ 1000 ∧ c = .tup (cs.map .int) ∧ cs.length ≤ 200 ∧ (∀ z ∈ cs, 0 ≤ z) ∧
    p.seq = some rows ∧ isTup p = false ∧ (rows.length : Int) = g ∧ (∀ r ∈ rows, ∃ ri : List Int, r = .tup (ri.map .int) ∧ ri.length = cs.length ∧ ∀ z ∈ ri, 0 ≤ z) ∧ colSums (rowsOf rows) cs.length = cs := by
  unfold splitErr at h
  cases hr : roundsErr s with
  | some i => rw [hr] at h; cases h
  | none =>
    obtain ⟨g, ns, hs, hl, hge⟩ := roundsErr_ex hr
    rw [hr] at h
    cases hc : countsOk c with
    | false => rw [hc] at h; cases h
    | true =>
      obtain ⟨cs, rfl, hcl, hcge⟩ := countsOk_ex hc
      simp only [hc, hs, if_pos, List.map_cons] at h
      cases hp : p.seq with
      | none =>
        rw [hp] at h
        by_cases hg : 1000 < g
        · simp only [if_pos hg] at h; cases h
        · simp only [if_neg hg] at h; cases h
      | some rows =>
        rw [hp] at h
        by_cases hg : 1000 < g
        · simp only [if_pos hg] at h; cases h
        simp only [if_neg hg] at h
        by_cases ht : isTup p = true ∨ (rows.length : Int) ≠ g
        · simp only [if_pos ht] at h
          cases h
        simp only [if_neg ht] at h
        rw [not_or] at ht
        cases hf : rows.findIdx? (fun r => !isGrp r (cs.map D.int).length) with
        | some i => rw [hf] at h; cases h
        | none =>
          rw [hf] at h
          by_cases hcs : colSums (rowsOf rows) (cs.map D.int).length = (cs.map D.int).map D.val
          · rw [List.length_map, val_int] at hcs
            refine ⟨g, ns, cs, rows, hs, hl, hge, by omega, rfl, hcl, hcge, rfl, by simpa using ht.1, by simpa using ht.2, fun r hr => ?_, hcs⟩
            rw [List.findIdx?_eq_none_iff] at hf
            have z := hf r hr
            rw [List.length_map] at z
            exact isGrp_ex (by simpa using z)
          · simp only [if_neg hcs] at h
            cases h
def afterD (rows : List D) (d : D) (ns : List Int) : D := .tup [.int (nearer (rowI (rows.getD d.val.toNat .non))).1, .tup ((nearer (rowI (rows.getD d.val.toNat .non))).2.map .int), .tup (ns.map .int)]
def cAfter (K : PySem.W.Frag) : Ct := Pc fun ds Q E => ∃ s c p d, ds = [s, c, p, d] ∧ s.kd 1 ∧ c.kd 1 ∧ p.kd 2 ∧ Tame p ∧ d.kd 0 ∧ match splitErr s c p with
  | some e => E (e.er K)
  | none => ∀ g ns rows, s.seq = some ((g :: ns).map D.int) → p.seq = some rows → if betw d 0 (g - 1) = true then Q (afterD rows d ns) else E ((Err.group d).er K)
theorem betw_ex (h : betw d lo hi = true) : ∃ k, d = .int k ∧ lo ≤ k ∧ k ≤ hi := by
  cases d <;> first | (simp only [betw, Bool.and_eq_true, decide_eq_true_eq] at h; exact ⟨_, rfl, h.1, h.2⟩) | cases h
theorem cd_tupseq (hs : d.seq = some es) (hf : isFz d = false) (q : Q (.tup es) M) : ClD X (.type "tuple") [d] M Q := by
  rcases seq_cases hs with rfl | rfl | rfl
  · exact cd_tuple_lst q
  · cases hf
  · exact cd_tuple_tup q
theorem sd_seq {l u : Option Int} (hs : d.seq = some es) (q : ∀ d', d'.seq = some (cutD es l u) → isFz d' = false → Q d' M) : SlD X d l u M Q := by
  rcases seq_cases hs with rfl | rfl | rfl
  · exact sd_lst (q _ rfl rfl)
  · exact sd_fz (q _ rfl rfl)
  · exact sd_tup (q _ rfl rfl)
theorem use_reqSplit {s c p : D} (ks : s.kd 1) (kc : c.kd 1) (kp : p.kd 2) (tp : Tame p) (q : splitErr s c p = none → Q .non M) (r : ∀ e, splitErr s c p = some e → E (e.er K) st M) : CtJ (cReqSplit K) 3 [s, c, p] st M Q E := by
  refine ctj_p ⟨s, c, p, rfl, ks, kc, kp, tp, ?_⟩
  cases h : splitErr s c p with
  | none => exact q h
  | some er => exact r er h
theorem use_climbed {cs : List Int} (hl : cs.length ≤ 1000) (q : Q (.tup [.int (nearer cs).1, .tup ((nearer cs).2.map .int)]) M) : CtJ cClimbed 1 [.tup (cs.map .int)] st M Q E := ctj_p ⟨cs, rfl, hl, q⟩
end
end SL

set_option maxHeartbeats 2000000
namespace SL
open PySem PySem.Spec PyProof.Rows L2 Evl
local macro_rules | `(tactic| wtm_at "sl e") => `(tactic| first
  | ((with_reducible show EJ _ (Expr.Name _ _) _ _ _ _); first | ((with_reducible refine' ej_nm ?h0 ?h1 ?h2 ?h3 ?h4 ?h5 ?_); (case h0 => with_reducible assumption); (case h1 => with_reducible assumption); (case h2 => kernel_rfl); (case h3 => kernel_rfl); (case h4 => rfl); (case h5 => kernel_rfl)) | ((with_reducible refine' ej_cn ?h0 ?h1 ?h2 ?_); (case h0 => with_reducible assumption); (case h1 => with_reducible assumption); (case h2 => kernel_rfl)) | ((with_reducible refine' ej_ty ?h0 ?h1 ?h2 ?_); (case h0 => with_reducible assumption); (case h1 => with_reducible assumption); (case h2 => kernel_rfl)))
  | ((with_reducible show EJ _ (Expr.Constant (Const.int _) _ _) _ _ _ _); refine ej_int ?_)
  | ((with_reducible show EJ _ (Expr.Constant (Const.str _) _ _) _ _ _ _); refine ej_str ?_)
  | ((with_reducible show EJ _ (Expr.Constant (Const.bool _) _ _) _ _ _ _); refine ej_bl ?_)
  | ((with_reducible show EJ _ (Expr.Constant Const.none _ _) _ _ _ _); refine ej_non ?_)
  | ((with_reducible show EJ _ (Expr.BinOp _ _ _ _) _ _ _ _); refine ej_op ?_)
  | ((with_reducible show EJ _ (Expr.UnaryOp UnaryOp.Not _ _) _ _ _ _); refine ej_not ?_)
  | ((with_reducible show EJ _ (Expr.UnaryOp _ _ _) _ _ _ _); refine ej_un ?_)
  | ((with_reducible show EJ _ (Expr.Tuple _ _ _) _ _ _ _); refine ej_tup ?_)
  | ((with_reducible show EJ _ (Expr.BoolOp _ [_] _) _ _ _ _); refine ej_one ?_)
  | ((with_reducible show EJ _ (Expr.BoolOp BoolOp.And _ _) _ _ _ _); refine ej_and ?_)
  | ((with_reducible show EJ _ (Expr.BoolOp BoolOp.Or _ _) _ _ _ _); refine ej_or ?_)
  | ((with_reducible show EJ _ (Expr.IfExp _ _ _ _) _ _ _ _); refine ej_if ?_)
  | ((with_reducible show EJ _ (Expr.Compare _ [_] _ _) _ _ _ _); (with_reducible refine' ej_cmp ?_ ?h1); (case h1 => first | exact nomark _ | rfl))
  | ((with_reducible show EJ _ (Expr.Compare _ [_, _] _ _) _ _ _ _); (with_reducible refine' ej_chain ?_ ?h1); (case h1 => rfl))
  | ((with_reducible show EJ _ (Expr.Subscript _ (Expr.Slice _ _ _ _) _) _ _ _ _); refine ej_slice ?_)
  | ((with_reducible show EJ _ (Expr.Subscript _ _ _) _ _ _ _); (with_reducible refine' ej_ix ?_ ?h1); (case h1 => intro _ _; rfl))
  | ((with_reducible show EJ _ (Expr.Call (Expr.Name _ _) (_ :: _) [] _) _ _ _ _); first | ((with_reducible refine' ej_cB ?h0 ?h1 ?h2 ?_ ?h3 ?h4); (case h0 => with_reducible assumption); (case h1 => with_reducible assumption); (case h2 => kernel_rfl); (case h3 => rfl); (case h4 => rfl)) | ((with_reducible refine' ej_cT ?h0 ?h1 ?h2 ?_ ?h3 ?h4); (case h0 => with_reducible assumption); (case h1 => with_reducible assumption); (case h2 => kernel_rfl); (case h3 => rfl); (case h4 => rfl)) | ((with_reducible refine' ej_fn ?h0 ?h1 ?h2 ?h3 ?h4 ?_ ?h5 ?h6); (case h0 => with_reducible assumption); (case h1 => with_reducible assumption); (case h2 => kernel_rfl); (case h3 => kernel_rfl); (case h4 => kernel_rfl); (case h5 => rfl); (case h6 => rfl)) | ((with_reducible refine' ej_mk ?h0 ?h1 ?h2 ?h3 ?h4 ?_ ?h5 ?h6); (case h0 => with_reducible assumption); (case h1 => with_reducible assumption); (case h2 => kernel_rfl); (case h3 => kernel_rfl); (case h4 => kernel_rfl); (case h5 => rfl); (case h6 => rfl))))
local macro_rules | `(tactic| wtm_at "sl f") => `(tactic| first
  | ((with_reducible show EJ _ (Expr.Attribute _ _ _) _ _ _ _); (with_reducible refine' ej_fl ?h0 ?h1 ?h2 ?_ ?h3); (case h0 => with_reducible assumption); (case h1 => with_reducible assumption); (case h2 => with_reducible assumption); (case h3 => rfl))
  | ((with_reducible show SJ _ (Stmt.Assign [Expr.Attribute _ _ _] _ _ :: _) _ _ _); (with_reducible refine' sj_cons (s1_fl ?h0 ?h1 ?h2 ?_ ?h3)); (case h0 => with_reducible assumption); (case h1 => with_reducible assumption); (case h2 => with_reducible assumption); (case h3 => rfl))
  | ((with_reducible show EJ _ (Expr.Call (Expr.Attribute _ _ _) (_ :: _) [] _) _ _ _ _); (with_reducible refine' ej_mt ?h0 ?h1 ?h2 ?_ ?h3 ?h4 ?h5); (case h0 => with_reducible assumption); (case h1 => with_reducible assumption); (case h2 => kernel_rfl); (case h3 => rfl); (case h4 => rfl); (case h5 => rfl))
  | ((with_reducible show EJ _ (Expr.Call (Expr.Attribute _ _ _) [] [] _) _ _ _ _); (with_reducible refine' ej_mt0 ?h0 ?h1 ?h2 ?_ ?h3); (case h0 => with_reducible assumption); (case h1 => with_reducible assumption); (case h2 => kernel_rfl); (case h3 => rfl)))
local macro_rules | `(tactic| wtm_at "sl b") => `(tactic| first
  | ((with_reducible show EJ _ (Expr.Call (Expr.Attribute _ (Str.ofString "append") _) (_ :: _) [] _) _ _ _ _); (with_reducible refine' ej_bm PySem.F.plainAttrs_list PySem.F.slot_list_append PySem.F.type_list_append ?_ ?h1 ?h2 ?h3 ?h4 ?h5); (case h1 => rfl); (case h2 => rfl); (case h3 => rfl); (case h4 => rfl); (case h5 => rfl))
  | ((with_reducible show EJ _ (Expr.Call (Expr.Attribute _ (Str.ofString "extend") _) (_ :: _) [] _) _ _ _ _); (with_reducible refine' ej_bm PySem.F.plainAttrs_list PySem.F.slot_list_extend PySem.F.type_list_extend ?_ ?h1 ?h2 ?h3 ?h4 ?h5); (case h1 => rfl); (case h2 => rfl); (case h3 => rfl); (case h4 => rfl); (case h5 => rfl))
  | ((with_reducible show EJ _ (Expr.Call (Expr.Attribute _ (Str.ofString "pop") _) (_ :: _) [] _) _ _ _ _); (with_reducible refine' ej_bm PySem.F.plainAttrs_list PySem.F.slot_list_pop PySem.F.type_list_pop ?_ ?h1 ?h2 ?h3 ?h4 ?h5); (case h1 => rfl); (case h2 => rfl); (case h3 => rfl); (case h4 => rfl); (case h5 => rfl))
  | ((with_reducible show EJ _ (Expr.Call (Expr.Attribute _ (Str.ofString "pop") _) [] [] _) _ _ _ _); (with_reducible refine' ej_bm0 PySem.F.plainAttrs_list PySem.F.slot_list_pop PySem.F.type_list_pop ?_ ?h1 ?h2); (case h1 => rfl); (case h2 => rfl))
  | ((with_reducible show EJ _ (Expr.Call (Expr.Attribute _ (Str.ofString "reverse") _) [] [] _) _ _ _ _); (with_reducible refine' ej_bm0 PySem.F.plainAttrs_list PySem.F.slot_list_reverse PySem.F.type_list_reverse ?_ ?h1 ?h2); (case h1 => rfl); (case h2 => rfl))
  | ((with_reducible show EJ _ (Expr.Call (Expr.Attribute _ (Str.ofString "clear") _) [] [] _) _ _ _ _); (with_reducible refine' ej_bm0 PySem.F.plainAttrs_list PySem.F.slot_list_clear PySem.F.type_list_clear ?_ ?h1 ?h2); (case h1 => rfl); (case h2 => rfl))
  | ((with_reducible show EJ _ (Expr.Call (Expr.Attribute _ (Str.ofString "index") _) (_ :: _) [] _) _ _ _ _); (with_reducible refine' ej_bm PySem.F.plainAttrs_list PySem.F.slot_list_index PySem.F.type_list_index ?_ ?h1 ?h2 ?h3 ?h4 ?h5); (case h1 => rfl); (case h2 => rfl); (case h3 => rfl); (case h4 => rfl); (case h5 => rfl))
  | ((with_reducible show HasTy _ _ (D.raw _) _ ∧ _); first | refine ⟨ty_own 0 rfl, ?_⟩ | refine ⟨ty_own 1 rfl, ?_⟩ | refine ⟨ty_own 2 rfl, ?_⟩)
  | ((with_reducible show HasTy _ _ (D.lst _) _ ∧ _); refine ⟨ty_lst, ?_⟩))
local macro_rules | `(tactic| wtm_at "sl a") => `(tactic| first
  | ((with_reducible show AJ _ [] _ _ _ _); refine aj_nil ?_)
  | ((with_reducible show AJ _ (_ :: _) _ _ _ _); (with_reducible refine' aj_cons ?_ ?h1); (case h1 => rfl)))
local macro_rules | `(tactic| wtm_at "sl t") => `(tactic| first
  | ((with_reducible show TJ _ (Expr.UnaryOp UnaryOp.Not _ _) _ _ _ _); refine tj_not ?_)
  | ((with_reducible show TJ _ (Expr.BoolOp _ _ _) _ _ _ _); refine tjs_of ?_)
  | ((with_reducible show TJ _ (Expr.Compare _ [_] _ _) _ _ _ _); (with_reducible refine' tj_cmp ?_ ?h1); (case h1 => first | exact nomark _ | rfl))
  | ((with_reducible show TJ _ (Expr.Compare _ [_, _] _ _) _ _ _ _); (with_reducible refine' tj_chain ?_ ?h1); (case h1 => rfl))
  | ((with_reducible show TJ _ (_) _ _ _ _); (with_reducible refine' tj_b ?_ ?h1); (case h1 => intro _; rfl))
  | ((with_reducible show TJs _ BoolOp.And (_ :: _ :: _) _ _ _ _ _); refine tjs_and ?_)
  | ((with_reducible show TJs _ BoolOp.Or (_ :: _ :: _) _ _ _ _ _); refine tjs_or ?_)
  | ((with_reducible show TJs _ _ [_] _ _ _ _ _); refine tjs_one ?_))
local macro_rules | `(tactic| wtm_at "sl s") => `(tactic| first
  | ((with_reducible show SJ _ [] _ _ _); refine sj_nil ?_)
  | ((with_reducible show SJ _ (Stmt.Return (some _) _ :: _) _ _ _); refine sj_cons (s1_ret ?_))
  | ((with_reducible show SJ _ (Stmt.Return none _ :: _) _ _ _); refine sj_cons (s1_retN ?_))
  | ((with_reducible show SJ _ (Stmt.If _ _ _ _ :: _) _ _ _); refine sj_cons (s1_if ?_))
  | ((with_reducible show SJ _ (Stmt.Pass _ :: _) _ _ _); refine sj_cons (s1_pass ?_))
  | ((with_reducible show SJ _ (Stmt.Break _ :: _) _ _ _); refine sj_cons (s1_break ?_))
  | ((with_reducible show SJ _ (Stmt.Continue _ :: _) _ _ _); refine sj_cons (s1_cont ?_))
  | ((with_reducible show SJ _ (Stmt.Assign [Expr.Subscript _ _ _] _ _ :: _) _ _ _); (with_reducible refine' sj_cons (s1_setI ?_ ?h1 ?h2 ?h3 ?h4)); (case h1 => intro _; rfl); (case h2 => rfl); (case h3 => rfl); (case h4 => rfl))
  | ((with_reducible show SJ _ (Stmt.Expr _ _ :: _) _ _ _); refine sj_cons (s1_expr ?_))
  | ((with_reducible show SJ _ (Stmt.Raise _ _ _ :: _) _ _ _); (with_reducible refine' sj_cons (s1_rs ?h0 ?h1 ?h2 ?h3 ?h4 ?_ ?h5 ?h6)); (case h0 => with_reducible assumption); (case h1 => with_reducible assumption); (case h2 => kernel_rfl); (case h3 => kernel_rfl); (case h4 => kernel_rfl); (case h5 => rfl); (case h6 => rfl))
  | ((with_reducible show SJ _ (Stmt.Assign [Expr.Name _ _] _ _ :: _) _ _ _); (with_reducible refine' sj_cons (s1_nm ?h0 ?h1 ?h2 ?h3 ?h4 ?_ ?h5)); (case h0 => with_reducible assumption); (case h1 => with_reducible assumption); (case h2 => kernel_rfl); (case h3 => kernel_rfl); (case h4 => kernel_rfl); (case h5 => rfl))
  | ((with_reducible show SJ _ (Stmt.AugAssign (Expr.Name _ _) _ _ _ :: _) _ _ _); (with_reducible refine' sj_cons (s1_ag ?h0 ?h1 ?h2 ?h3 ?h4 ?h5 ?_)); (case h0 => with_reducible assumption); (case h1 => with_reducible assumption); (case h2 => kernel_rfl); (case h3 => kernel_rfl); (case h4 => kernel_rfl); (case h5 => rfl))
  | ((with_reducible show SJ _ (Stmt.Assign [Expr.Tuple _ _ _] (Expr.Call _ _ _ _) _ :: _) _ _ _); (with_reducible refine' sj_cons (s1_asg ?_ ?h1 ?h2 ?h3)); (case h1 => rfl); (case h2 => rfl); (case h3 => rfl))
  | ((with_reducible show SJ _ (Stmt.Assign [Expr.Tuple [Expr.Name _ _, Expr.Name _ _] _ _] (Expr.Tuple [_, _] _ _) _ :: _) _ _ _); (with_reducible refine' sj_cons (s1_pr ?h0 ?h1 ?h2 ?h3 ?h4 ?h5 ?h6 ?h7 ?_ ?h8 ?h9)); (case h0 => with_reducible assumption); (case h1 => with_reducible assumption); (case h2 => with_reducible assumption); (case h3 => kernel_rfl); (case h4 => kernel_rfl); (case h5 => decide); (case h6 => kernel_rfl); (case h7 => kernel_rfl); (case h8 => rfl); (case h9 => rfl)))
local macro_rules | `(tactic| wtm_at "sl g") => `(tactic| first
  | ((with_reducible show GJ _ (Expr.Name _ _) _ _ _ _ _); (with_reducible refine' gj_nm ?h0 ?h1 ?h2 ?h3 ?h4 ?_); (case h0 => with_reducible assumption); (case h1 => with_reducible assumption); (case h2 => kernel_rfl); (case h3 => kernel_rfl); (case h4 => kernel_rfl))
  | ((with_reducible show GJ _ (Expr.Tuple [Expr.Name _ _, Expr.Name _ _] _ _) _ _ _ _ _); (with_reducible refine' gj_tp2 ?h0 ?h1 ?h2 ?h3 ?h4 ?h5 ?h6 ?h7 ?h8 ?_); (case h0 => with_reducible assumption); (case h1 => with_reducible assumption); (case h2 => with_reducible assumption); (case h3 => kernel_rfl); (case h4 => kernel_rfl); (case h5 => kernel_rfl); (case h6 => kernel_rfl); (case h7 => kernel_rfl); (case h8 => kernel_rfl))
  | ((with_reducible show GJ _ (Expr.Tuple [Expr.Name _ _, Expr.Name _ _, Expr.Name _ _] _ _) _ _ _ _ _); (with_reducible refine' gj_tp3 ?h0 ?h1 ?h2 ?h3 ?h4 ?h5 ?h6 ?h7 ?h8 ?h9 ?i0 ?i1 ?i2 ?_); (case h0 => with_reducible assumption); (case h1 => with_reducible assumption); (case h2 => with_reducible assumption); (case h3 => with_reducible assumption); (case h4 => kernel_rfl); (case h5 => kernel_rfl); (case h6 => kernel_rfl); (case h7 => kernel_rfl); (case h8 => kernel_rfl); (case h9 => kernel_rfl); (case i0 => kernel_rfl); (case i1 => kernel_rfl); (case i2 => kernel_rfl))
  | ((with_reducible show GJ _ (Expr.Tuple _ _ _) _ _ _ _ _); (with_reducible refine' gj_tp ?h0 ?_ ?h1 ?h2 ?h3); (case h0 => with_reducible assumption); (case h1 => rfl); (case h2 => rfl); (case h3 => rfl))
  | ((with_reducible show GsJ _ (_ :: _) _ _ _ _ _); (with_reducible refine' gsj_cons ?_ ?h1); (case h1 => rfl))
  | ((with_reducible show GsJ _ [] _ _ _ _ _); refine gsj_nil ?_))
local macro_rules | `(tactic| wtm_at "sl i") => `(tactic| first
  | ((with_reducible show IJ _ _ (Expr.Name _ _) _ _ _ _); (with_reducible refine' ij_nm ?h0 ?h1 ?h2 ?h3 ?h4 ?h5 ?h6 ?_); (case h0 => with_reducible assumption); (case h1 => with_reducible assumption); (case h2 => kernel_rfl); (case h3 => kernel_rfl); (case h4 => rfl); (case h5 => kernel_rfl); (case h6 => first | assumption | exact .inl rfl | exact .inr (.inl rfl) | exact .inr (.inr rfl)))
  | ((with_reducible show IJ _ _ (Expr.Call (Expr.Name (Str.ofString "enumerate") _) [_] [] _) _ _ _ _); (with_reducible refine' ij_en ?h0 ?h1 ?h2 ?_ ?h3); (case h0 => with_reducible assumption); (case h1 => with_reducible assumption); (case h2 => kernel_rfl); (case h3 => rfl))
  | ((with_reducible show IJ _ _ (Expr.Call (Expr.Name (Str.ofString "range") _) [_] [] _) _ _ _ _); (with_reducible refine' ij_r1 ?h0 ?h1 ?h2 ?_ ?h3); (case h0 => with_reducible assumption); (case h1 => with_reducible assumption); (case h2 => kernel_rfl); (case h3 => rfl))
  | ((with_reducible show IJ _ _ (Expr.Call (Expr.Name (Str.ofString "range") _) [_, _] [] _) _ _ _ _); (with_reducible refine' ij_r2 ?h0 ?h1 ?h2 ?_ ?h3 ?h4); (case h0 => with_reducible assumption); (case h1 => with_reducible assumption); (case h2 => kernel_rfl); (case h3 => rfl); (case h4 => rfl))
  | ((with_reducible show IJ _ _ (Expr.Call (Expr.Name (Str.ofString "zip") _) [_, _] [] _) _ _ _ _); (with_reducible refine' ij_zp ?h0 ?h1 ?h2 ?_ ?h3 ?h4); (case h0 => with_reducible assumption); (case h1 => with_reducible assumption); (case h2 => kernel_rfl); (case h3 => rfl); (case h4 => rfl)))
local macro_rules | `(tactic| wtm_at "sl o") => `(tactic| first
  | ((with_reducible show OpD _ (binaryOp Operator.Add) (D.int _) (D.int _) _ _); refine od_add ?_)
  | ((with_reducible show OpD _ (inplaceOp Operator.Add) (D.int _) (D.int _) _ _); refine oi_add ?_)
  | ((with_reducible show OpD _ (binaryOp Operator.Sub) (D.int _) (D.int _) _ _); refine od_sub ?_)
  | ((with_reducible show OpD _ (inplaceOp Operator.Sub) (D.int _) (D.int _) _ _); refine oi_sub ?_)
  | ((with_reducible show OpD _ (binaryOp Operator.Mult) (D.int _) (D.int _) _ _); refine od_mulC (by first | exact .inl ⟨by omega, by omega⟩ | exact .inr ⟨by omega, by omega⟩) ?_)
  | ((with_reducible show OpD _ (binaryOp Operator.Pow) (D.int 10) (D.int 9) _ _); refine od_p9 ?_)
  | ((with_reducible show OpD _ (binaryOp Operator.Pow) (D.int 10) (D.int 12) _ _); refine od_p12 ?_)
  | ((with_reducible show OpD _ (binaryOp Operator.Pow) (D.int 10) (D.int 18) _ _); refine od_p18 ?_)
  | ((with_reducible show OpD _ (binaryOp Operator.Pow) (D.int 10) (D.int 20) _ _); refine od_p20 ?_)
  | ((with_reducible show OpD _ (compareOp CmpOp.Lt) (D.int _) (D.int _) _ _); refine od_lt ?_)
  | ((with_reducible show OpD _ (compareOp CmpOp.LtE) (D.int _) (D.int _) _ _); refine od_le ?_)
  | ((with_reducible show OpD _ (compareOp CmpOp.Gt) (D.int _) (D.int _) _ _); refine od_gt ?_)
  | ((with_reducible show OpD _ (compareOp CmpOp.GtE) (D.int _) (D.int _) _ _); refine od_ge ?_)
  | ((with_reducible show OpD _ (compareOp CmpOp.Eq) (D.int _) (D.int _) _ _); refine od_eqI ?_)
  | ((with_reducible show OpD _ (compareOp CmpOp.NotEq) (D.int _) (D.int _) _ _); refine od_neI ?_)
  | ((with_reducible show OpD _ (compareOp CmpOp.Eq) (D.str _) (D.str _) _ _); refine od_eqS ?_)
  | ((with_reducible show UnD _ _ (D.int _) _ _); refine ud_neg ?_)
  | ((with_reducible show ClD _ (Value.builtin "len") [D.lst _] _ _); refine cd_len_lst ?_)
  | ((with_reducible show ClD _ (Value.builtin "len") [D.tup _] _ _); refine cd_len_tup ?_)
  | ((with_reducible show ClD _ (Value.builtin "len") [D.fz _] _ _); refine cd_len_fz ?_)
  | ((with_reducible show ClD _ (Value.type "int") [D.int _] _ _); refine cd_intI ?_)
  | ((with_reducible show ClD _ (Value.type "int") [D.bl _] _ _); refine cd_intB ?_)
  | ((with_reducible show ClD _ (Value.builtin "isinstance") [_, D.ty _] _ _); (with_reducible refine' cd_isi ?h1 ?h2 ?_); (case h1 => first | assumption | rfl); (case h2 => decide))
  | ((with_reducible show ClD _ (Value.builtin "isinstance") [_, D.tup [D.ty _, D.ty _]] _ _); (with_reducible refine' cd_isi2 ?h1 ?h2 ?h3 ?_); (case h1 => first | assumption | rfl); (case h2 => decide); (case h3 => decide)))
local macro_rules | `(tactic| wtm_at "sl v") => `(tactic| first
  | ((with_reducible show OpD _ (binaryOp Operator.Mod) (D.int _) (D.int _) _ _); refine od_modV (by omega) fun r h0 h1 => ?_)
  | ((with_reducible show OpD _ (binaryOp Operator.FloorDiv) (D.int _) (D.int _) _ _); refine od_div (divOk_le (by omega) (by omega)) ?_))
local macro_rules | `(tactic| wtm_at "sl m") => `(tactic| first
  | ((with_reducible show IxD _ (D.raw _) (D.int _) _ _); first | refine id_own 0 rfl rfl ?_ | refine id_own 1 rfl rfl ?_ | refine id_own 2 rfl rfl ?_)
  | ((with_reducible show if true = true then _ else _); refine ite_t ?_)
  | ((with_reducible show if (!false) = true then _ else _); refine ite_nf ?_)
  | ((with_reducible show if (!true) = true then _ else _); refine ite_nt ?_)
  | ((with_reducible show if false = true then _ else _); refine ite_f ?_)
  | ((with_reducible show ∃ k, D.bl _ = D.bl k ∧ _); refine ⟨_, rfl, ?_⟩)
  | ((with_reducible show ∃ i, D.int _ = D.int i ∧ _); refine ⟨_, rfl, ?_⟩)
  | ((with_reducible show OJ _ none _ _ _ _); refine oj_none ?_)
  | ((with_reducible show OJ _ (some _) _ _ _ _); refine oj_some ?_)
  | ((with_reducible show SlD _ (D.lst _) _ _ _ _); refine sd_lst ?_)
  | ((with_reducible show SlD _ (D.fz _) _ _ _ _); refine sd_fz ?_)
  | ((with_reducible show SlD _ (D.tup _) _ _ _ _); refine sd_tup ?_)
  | ((with_reducible show List.length _ ≤ 100000 ∧ _); refine ⟨Nat.le_of_ble_eq_true rfl, ?_⟩))
local macro_rules | `(tactic| wtm_at "sl") => `(tactic| repeat (first | wtm_at "sl e" | wtm_at "sl a" | wtm_at "sl b" | wtm_at "sl f" | wtm_at "sl o" | wtm_at "sl t" | wtm_at "sl s" | wtm_at "sl m" | wtm_at "sl g" | wtm_at "sl i"))
local macro_rules | `(tactic| wtm_at "slv") => `(tactic| repeat (first | wtm_at "sl e" | wtm_at "sl a" | wtm_at "sl b" | wtm_at "sl f" | wtm_at "sl v" | wtm_at "sl o" | wtm_at "sl t" | wtm_at "sl s" | wtm_at "sl m" | wtm_at "sl g" | wtm_at "sl i"))
local macro_rules | `(tactic| wtm_at "sl in") => `(tactic| conv => arg 2; whnf)
local macro_rules | `(tactic| wtm_at "sl r0") => `(tactic| refine ⟨[], List.nil_sublist _, rfl, ?_⟩)
section
variable {X : Cx} {st : Sls} {M : Mem} {Q : DK} {E : EK} {P : Program} {w : World} {K : PySem.W.Frag} {mg : Str → Option Value} {base : Heap} {f : Addr} {fd : FuncData} {d e : D} {es : List D} {lo hi : Int} {i : Int}
/-! ### products, weights -/
def prodL : List Int → Int
  | [] => 1
  | n :: ns => n * prodL ns
theorem prodL_app (xs ys : List Int) : prodL (xs ++ ys) = prodL xs * prodL ys := by
  induction xs with
  | nil => simp [prodL]
  | cons x xs ih => simp [prodL, ih, Int.mul_assoc]
theorem prodL_pos {xs : List Int} (h : ∀ z ∈ xs, 1 ≤ z) : 1 ≤ prodL xs := by
  induction xs with
  | nil => decide
  | cons x xs ih =>
    have h1 := h x List.mem_cons_self
    have h2 := ih fun z hz => h z (List.mem_cons_of_mem _ hz)
    show 1 ≤ x * prodL xs
    have := Int.mul_le_mul h1 h2 (by decide) (by omega)
    simpa using this
theorem prodL_take {xs : List Int} (h : ∀ z ∈ xs, 1 ≤ z) (i : Nat) : prodL (xs.take i) ≤ prodL xs := by
  have e := List.take_append_drop i xs
  have h1 := prodL_pos (xs := xs.take i) fun z hz => h z (List.mem_of_mem_take hz)
  have h2 := prodL_pos (xs := xs.drop i) fun z hz => h z (List.mem_of_mem_drop hz)
  have e2 : prodL xs = prodL (xs.take i) * prodL (xs.drop i) := by rw [← prodL_app, e]
  rw [e2]
  have := Int.mul_le_mul (Int.le_refl (prodL (xs.take i))) h2 (by decide) (by omega)
  simpa using this
/-- the products of the first 0, 1, .. entries -/
def prods (ns : List Int) : List Int := (List.range (ns.length + 1)).map fun i => prodL (ns.take i)
theorem prods_len (ns : List Int) : (prods ns).length = ns.length + 1 := by simp [prods]
theorem prods_get (ns : List Int) {i : Nat} (h : i ≤ ns.length) : (prods ns)[i]? = some (prodL (ns.take i)) := by
  simp [prods, List.getElem?_map, List.getElem?_range (Nat.lt_succ_of_le h)]
theorem prods_snoc (ns : List Int) (z : Int) : prods (ns ++ [z]) = prods ns ++ [prodL ns * z] := by
  unfold prods
  rw [List.length_append, List.length_singleton, List.range_succ, List.map_append]
  congr 1
  · refine List.map_congr_left fun i hi => ?_
    have : i ≤ ns.length := by simp at hi; omega
    rw [List.take_append_of_le_length this]
  · show [prodL ((ns ++ [z]).take (ns.length + 1))] = _
    rw [List.take_of_length_le (by simp), prodL_app]
    simp [prodL]
theorem prods_last (ns : List Int) : ∃ ps, prods ns = ps ++ [prodL ns] := by
  unfold prods
  rw [List.range_succ, List.map_append]
  exact ⟨(List.range ns.length).map fun i => prodL (ns.take i), by simp⟩
structure SchOk (ns : List Int) : Prop where
  len : ns.length ≤ 200
  ge : ∀ z ∈ ns, 1 ≤ z
  lt : prodL ns < 2 ^ 9000
theorem SchOk.nat {ns : List Int} (h : SchOk ns) (i : Nat) : (prodL (ns.take i)).natAbs < 2 ^ 9000 := by
  have h1 := prodL_pos (xs := ns.take i) fun z hz => h.ge z (List.mem_of_mem_take hz)
  have h2 := prodL_take h.ge i
  have h3 := h.lt
  omega
theorem SchOk.mem {ns : List Int} (h : SchOk ns) {z : Int} (hz : z ∈ ns) : z ≤ prodL ns := by
  obtain ⟨xs, ys, rfl⟩ := List.append_of_mem hz
  have h0 := h.ge
  have h1 := prodL_pos (xs := xs) fun z hz => h0 z (by simp [hz])
  have h2 := prodL_pos (xs := ys) fun z hz => h0 z (by simp [hz])
  have h3 := h0 z (by simp)
  rw [prodL_app]
  show z ≤ prodL xs * (z * prodL ys)
  have a := Int.mul_le_mul (Int.le_refl z) h2 (by decide) (by omega)
  have b := Int.mul_le_mul h1 (Int.le_refl (z * prodL ys)) (by omega) (by omega)
  omega
def cProducts : Ct := Pc fun ds Q _ => ∃ d ns, ds = [d] ∧ d.seq = some (ns.map D.int) ∧ SchOk ns ∧ Q (.lst ((prods ns).map .int))
theorem f_products (F : FunD K "products" "products" (defArgs s_products) (defBody s_products) (defScope s_products) [] [] f fd) (B : Bs mg)  : FnOk P w K mg base (L2.CX P w) 1 f fd p_products (spOf K 1 cProducts) := by
  refine fn_rule F sc_products fun X hX ds M Q E hl hc => ?_
  have cf := hX.cf sc_products
  clear hX hl F
  obtain ⟨n0, n1, n2, _⟩ := nms_products
  obtain ⟨b1, b2, b3, b4, b5, b6, b7, b8, b9, b10, b11, b12, b13, b14, b15, b16, b17, b18, b19⟩ := B
  refine body_p hc fun Q' E' ⟨d, ns, e, hs, ok, hq⟩ => ?_
  clear hc
  subst e
  wtm_at "sl in"
  have hs2 := seq_cases hs
  have hlen := ok.len
  wtm_at "sl"
  refine ej_lstO ?_
  wtm_at "sl"
  intro q
  refine' sj_cons (s1_fr cf (fun i st' M' => (∃ a, st' = [some d, some (.raw (.ref q)), a]) ∧ M' = [(q, .lst ((prods (ns.take i)).map .int))]) ?_)
  wtm_at "sl"
  refine ⟨⟨⟨none, rfl⟩, rfl⟩, fun i x st' M' hx ⟨⟨a, e1⟩, e2⟩ => ?_, fun st' M' ⟨⟨a, e1⟩, e2⟩ => ?_⟩
  · subst e1 e2
    rw [List.getElem?_map] at hx
    obtain ⟨z, hz, rfl⟩ : ∃ z, ns[i]? = some z ∧ D.int z = x := by
      cases h : ns[i]? with
      | none => rw [h] at hx; cases hx
      | some z => rw [h] at hx; cases hx; exact ⟨z, rfl, rfl⟩
    have hi : i < ns.length := (List.getElem?_eq_some_iff.mp hz).1
    obtain ⟨ps, hps⟩ := prods_last (ns.take i)
    wtm_at "sl"
    refine id_own 0 rfl (d := .int (prodL (ns.take i))) (by rw [hps, List.map_append]; exact atI_last _ _) ?_
    wtm_at "sl"
    refine od_mul (mulx_ok (a := 9000) (b := 9000) (ok.nat i) ?_ (by decide)) ?_
    · have h1 := ok.mem (List.mem_of_getElem? hz)
      have h2 := ok.ge z (List.mem_of_getElem? hz)
      have h3 := ok.lt
      omega
    wtm_at "sl"
    refine md_append 0 rfl (by rw [List.length_map, prods_len]; have := List.length_take_le i ns; omega) ?_
    wtm_at "sl"
    refine ⟨⟨_, rfl⟩, ?_⟩
    have e3 : ns.take (i + 1) = ns.take i ++ [z] := by rw [List.take_add_one, hz]; rfl
    rw [e3, prods_snoc]
    simp
  · subst e1 e2
    rw [List.length_map, List.take_length]
    refine sj_cons (s1_ret (ej_frz ?_))
    wtm_at "sl"
    exact ⟨q, 0, _, rfl, rfl, [], List.nil_sublist _, rfl, hq⟩
/-- the weight, times the product of all -/
def scaledW (ns cs : List Int) : Int := ((cs.zip (prods ns).tail).map fun p => p.1 * (prodL ns / p.2)).sum
def cScaled : Ct := Pc fun ds Q _ => ∃ d ns cs, ds = [d, .tup (cs.map .int)] ∧ d.seq = some (ns.map D.int) ∧ SchOk ns ∧ cs.length ≤ 1000000 ∧ (∀ z ∈ cs, z.natAbs < 2 ^ 100000) ∧ Q (.int (scaledW ns cs))
theorem use_products {ns : List Int} (hs : d.seq = some (ns.map D.int)) (ok : SchOk ns) (q : Q (.lst ((prods ns).map .int)) M) : CtJ cProducts 1 [d] st M Q E := ctj_p ⟨d, ns, rfl, hs, ok, q⟩
theorem zip_int (xs ys : List Int) : zipD (xs.map .int) (ys.map .int) = (xs.zip ys).map fun p => .tup [.int p.1, .int p.2] := by
  induction xs generalizing ys with
  | nil => cases ys <;> rfl
  | cons x xs ih => cases ys with
    | nil => rfl
    | cons y ys => simp [zipD, ih]
theorem f_scaled_weight (F : FunD K "scaled_weight" "scaled_weight" (defArgs s_scaled_weight) (defBody s_scaled_weight) (defScope s_scaled_weight) [] [] f fd) (B : Bs mg) (h1 : FnI P w K mg base 1 "products" p_products cProducts) : FnOk P w K mg base (L2.CX P w) 2 f fd p_scaled_weight (spOf K 2 cScaled) := by
  refine fn_rule F sc_scaled_weight fun X hX ds M Q E hl hc => ?_
  have cf := hX.cf sc_scaled_weight
  clear hX hl F
  obtain ⟨n0, n1, n2, n3, n4, _⟩ := nms_scaled_weight
  obtain ⟨b1, b2, b3, b4, b5, b6, b7, b8, b9, b10, b11, b12, b13, b14, b15, b16, b17, b18, b19⟩ := B
  refine body_p hc fun Q' E' ⟨d, ns, cs, e, hs, ok, hl, hcb, hq⟩ => ?_
  clear hc
  subst e
  wtm_at "sl in"
  wtm_at "sl"
  refine use_products hs ok ?_
  wtm_at "sl"
  refine ej_cp [("count", 3), ("product", 4)] cf (by kernel_rfl) ?_
  wtm_at "sl"
  have hps : ∃ p ps, prods ns = p :: ps := by
    cases h : prods ns with
    | nil => have := prods_len ns; rw [h] at this; cases this
    | cons p ps => exact ⟨p, ps, rfl⟩
  obtain ⟨p0, ps, hps⟩ := hps
  rw [hps, List.map_cons, cut1]
  wtm_at "sl"
  refine ⟨_, _, _, _, rfl, .inr (.inr rfl), .inl rfl, ?_⟩
  rw [zip_int]
  refine lcj_map (fun d => match d with
    | .tup [.int a, .int b] => .int (a * (prodL ns / b))
    | _ => .non) [3, 4] (by decide) (by simp; omega) (fun x hx Y hY => ?_) ?_
  · obtain ⟨⟨a, b⟩, hab, rfl⟩ := List.mem_map.mp hx
    have cf1 := cf.blk hY
    have ha := (List.of_mem_zip hab).1
    have hb := (List.of_mem_zip hab).2
    obtain ⟨i, hi, rfl⟩ : ∃ i, i ≤ ns.length ∧ prodL (ns.take i) = b := by
      have : b ∈ prods ns := by rw [hps]; exact List.mem_cons_of_mem _ hb
      unfold prods at this
      obtain ⟨i, hi, e⟩ := List.mem_map.mp this
      exact ⟨i, by simp at hi; omega, e⟩
    have hpos := prodL_pos (xs := ns.take i) fun z hz => ok.ge z (List.mem_of_mem_take hz)
    have hpl := ok.nat i
    have hP := ok.nat ns.length
    have hP1 := prodL_pos ok.ge
    rw [List.take_length] at hP
    wtm_at "sl"
    refine ⟨rfl, fun Y hY => ?_⟩
    have cf2 := cf.blk hY
    obtain ⟨qs, hqs⟩ := prods_last ns
    wtm_at "sl"
    refine id_lst (d := .int (prodL ns)) (by rw [← List.map_cons, ← hps, hqs, List.map_append]; exact atI_last _ _) ?_
    wtm_at "sl"
    refine od_div ⟨by omega, PyProof.noPylong_of_log2 ((Nat.log2_lt (by omega)).mpr hpl)⟩ ?_
    wtm_at "sl"
    refine od_mul (mulx_ok (a := 100000) (b := 9000) (hcb a ha) ?_ (by decide)) ⟨rfl, rfl⟩
    have h5 : prodL ns / prodL (ns.take i) ≤ prodL ns := Int.ediv_le_self _ (by omega)
    have h6 : 0 ≤ prodL ns / prodL (ns.take i) := Int.ediv_nonneg (by omega) (by omega)
    dsimp only
    generalize prodL ns / prodL (ns.take i) = q at h5 h6 ⊢
    omega
  · wtm_at "sl"
    rw [show (((cs.zip ps).map fun p => D.tup [.int p.1, .int p.2]).map fun d => match d with
        | .tup [.int a, .int b] => D.int (a * (prodL ns / b))
        | _ => .non) = ((cs.zip ps).map fun p => p.1 * (prodL ns / p.2)).map D.int by simp]
    refine cd_sum cf.calm ?_
    wtm_at "sl r0"
    simpa [scaledW, hps] using hq

end
end SL

set_option maxHeartbeats 2000000
namespace SL
open PySem PySem.Spec PyProof.Rows L2 Evl
local macro_rules | `(tactic| wtm_at "sl e") => `(tactic| first
  | ((with_reducible show EJ _ (Expr.Name _ _) _ _ _ _); first | ((with_reducible refine' ej_nm ?h0 ?h1 ?h2 ?h3 ?h4 ?h5 ?_); (case h0 => with_reducible assumption); (case h1 => with_reducible assumption); (case h2 => kernel_rfl); (case h3 => kernel_rfl); (case h4 => rfl); (case h5 => kernel_rfl)) | ((with_reducible refine' ej_cn ?h0 ?h1 ?h2 ?_); (case h0 => with_reducible assumption); (case h1 => with_reducible assumption); (case h2 => kernel_rfl)) | ((with_reducible refine' ej_ty ?h0 ?h1 ?h2 ?_); (case h0 => with_reducible assumption); (case h1 => with_reducible assumption); (case h2 => kernel_rfl)))
  | ((with_reducible show EJ _ (Expr.Constant (Const.int _) _ _) _ _ _ _); refine ej_int ?_)
  | ((with_reducible show EJ _ (Expr.Constant (Const.str _) _ _) _ _ _ _); refine ej_str ?_)
  | ((with_reducible show EJ _ (Expr.Constant (Const.bool _) _ _) _ _ _ _); refine ej_bl ?_)
  | ((with_reducible show EJ _ (Expr.Constant Const.none _ _) _ _ _ _); refine ej_non ?_)
  | ((with_reducible show EJ _ (Expr.BinOp _ _ _ _) _ _ _ _); refine ej_op ?_)
  | ((with_reducible show EJ _ (Expr.UnaryOp UnaryOp.Not _ _) _ _ _ _); refine ej_not ?_)
  | ((with_reducible show EJ _ (Expr.UnaryOp _ _ _) _ _ _ _); refine ej_un ?_)
  | ((with_reducible show EJ _ (Expr.Tuple _ _ _) _ _ _ _); refine ej_tup ?_)
  | ((with_reducible show EJ _ (Expr.BoolOp _ [_] _) _ _ _ _); refine ej_one ?_)
  | ((with_reducible show EJ _ (Expr.BoolOp BoolOp.And _ _) _ _ _ _); refine ej_and ?_)
  | ((with_reducible show EJ _ (Expr.BoolOp BoolOp.Or _ _) _ _ _ _); refine ej_or ?_)
  | ((with_reducible show EJ _ (Expr.IfExp _ _ _ _) _ _ _ _); refine ej_if ?_)
  | ((with_reducible show EJ _ (Expr.Compare _ [_] _ _) _ _ _ _); (with_reducible refine' ej_cmp ?_ ?h1); (case h1 => first | exact nomark _ | rfl))
  | ((with_reducible show EJ _ (Expr.Compare _ [_, _] _ _) _ _ _ _); (with_reducible refine' ej_chain ?_ ?h1); (case h1 => rfl))
  | ((with_reducible show EJ _ (Expr.Subscript _ (Expr.Slice _ _ _ _) _) _ _ _ _); refine ej_slice ?_)
  | ((with_reducible show EJ _ (Expr.Subscript _ _ _) _ _ _ _); (with_reducible refine' ej_ix ?_ ?h1); (case h1 => intro _ _; rfl))
  | ((with_reducible show EJ _ (Expr.Call (Expr.Name _ _) (_ :: _) [] _) _ _ _ _); first | ((with_reducible refine' ej_cB ?h0 ?h1 ?h2 ?_ ?h3 ?h4); (case h0 => with_reducible assumption); (case h1 => with_reducible assumption); (case h2 => kernel_rfl); (case h3 => rfl); (case h4 => rfl)) | ((with_reducible refine' ej_cT ?h0 ?h1 ?h2 ?_ ?h3 ?h4); (case h0 => with_reducible assumption); (case h1 => with_reducible assumption); (case h2 => kernel_rfl); (case h3 => rfl); (case h4 => rfl)) | ((with_reducible refine' ej_fn ?h0 ?h1 ?h2 ?h3 ?h4 ?_ ?h5 ?h6); (case h0 => with_reducible assumption); (case h1 => with_reducible assumption); (case h2 => kernel_rfl); (case h3 => kernel_rfl); (case h4 => kernel_rfl); (case h5 => rfl); (case h6 => rfl)) | ((with_reducible refine' ej_mk ?h0 ?h1 ?h2 ?h3 ?h4 ?_ ?h5 ?h6); (case h0 => with_reducible assumption); (case h1 => with_reducible assumption); (case h2 => kernel_rfl); (case h3 => kernel_rfl); (case h4 => kernel_rfl); (case h5 => rfl); (case h6 => rfl))))
local macro_rules | `(tactic| wtm_at "sl f") => `(tactic| first
  | ((with_reducible show EJ _ (Expr.Attribute _ _ _) _ _ _ _); (with_reducible refine' ej_fl ?h0 ?h1 ?h2 ?_ ?h3); (case h0 => with_reducible assumption); (case h1 => with_reducible assumption); (case h2 => with_reducible assumption); (case h3 => rfl))
  | ((with_reducible show SJ _ (Stmt.Assign [Expr.Attribute _ _ _] _ _ :: _) _ _ _); (with_reducible refine' sj_cons (s1_fl ?h0 ?h1 ?h2 ?_ ?h3)); (case h0 => with_reducible assumption); (case h1 => with_reducible assumption); (case h2 => with_reducible assumption); (case h3 => rfl))
  | ((with_reducible show EJ _ (Expr.Call (Expr.Attribute _ _ _) (_ :: _) [] _) _ _ _ _); (with_reducible refine' ej_mt ?h0 ?h1 ?h2 ?_ ?h3 ?h4 ?h5); (case h0 => with_reducible assumption); (case h1 => with_reducible assumption); (case h2 => kernel_rfl); (case h3 => rfl); (case h4 => rfl); (case h5 => rfl))
  | ((with_reducible show EJ _ (Expr.Call (Expr.Attribute _ _ _) [] [] _) _ _ _ _); (with_reducible refine' ej_mt0 ?h0 ?h1 ?h2 ?_ ?h3); (case h0 => with_reducible assumption); (case h1 => with_reducible assumption); (case h2 => kernel_rfl); (case h3 => rfl)))
local macro_rules | `(tactic| wtm_at "sl b") => `(tactic| first
  | ((with_reducible show EJ _ (Expr.Call (Expr.Attribute _ (Str.ofString "append") _) (_ :: _) [] _) _ _ _ _); (with_reducible refine' ej_bm PySem.F.plainAttrs_list PySem.F.slot_list_append PySem.F.type_list_append ?_ ?h1 ?h2 ?h3 ?h4 ?h5); (case h1 => rfl); (case h2 => rfl); (case h3 => rfl); (case h4 => rfl); (case h5 => rfl))
  | ((with_reducible show EJ _ (Expr.Call (Expr.Attribute _ (Str.ofString "extend") _) (_ :: _) [] _) _ _ _ _); (with_reducible refine' ej_bm PySem.F.plainAttrs_list PySem.F.slot_list_extend PySem.F.type_list_extend ?_ ?h1 ?h2 ?h3 ?h4 ?h5); (case h1 => rfl); (case h2 => rfl); (case h3 => rfl); (case h4 => rfl); (case h5 => rfl))
  | ((with_reducible show EJ _ (Expr.Call (Expr.Attribute _ (Str.ofString "pop") _) (_ :: _) [] _) _ _ _ _); (with_reducible refine' ej_bm PySem.F.plainAttrs_list PySem.F.slot_list_pop PySem.F.type_list_pop ?_ ?h1 ?h2 ?h3 ?h4 ?h5); (case h1 => rfl); (case h2 => rfl); (case h3 => rfl); (case h4 => rfl); (case h5 => rfl))
  | ((with_reducible show EJ _ (Expr.Call (Expr.Attribute _ (Str.ofString "pop") _) [] [] _) _ _ _ _); (with_reducible refine' ej_bm0 PySem.F.plainAttrs_list PySem.F.slot_list_pop PySem.F.type_list_pop ?_ ?h1 ?h2); (case h1 => rfl); (case h2 => rfl))
  | ((with_reducible show EJ _ (Expr.Call (Expr.Attribute _ (Str.ofString "reverse") _) [] [] _) _ _ _ _); (with_reducible refine' ej_bm0 PySem.F.plainAttrs_list PySem.F.slot_list_reverse PySem.F.type_list_reverse ?_ ?h1 ?h2); (case h1 => rfl); (case h2 => rfl))
  | ((with_reducible show EJ _ (Expr.Call (Expr.Attribute _ (Str.ofString "clear") _) [] [] _) _ _ _ _); (with_reducible refine' ej_bm0 PySem.F.plainAttrs_list PySem.F.slot_list_clear PySem.F.type_list_clear ?_ ?h1 ?h2); (case h1 => rfl); (case h2 => rfl))
  | ((with_reducible show EJ _ (Expr.Call (Expr.Attribute _ (Str.ofString "index") _) (_ :: _) [] _) _ _ _ _); (with_reducible refine' ej_bm PySem.F.plainAttrs_list PySem.F.slot_list_index PySem.F.type_list_index ?_ ?h1 ?h2 ?h3 ?h4 ?h5); (case h1 => rfl); (case h2 => rfl); (case h3 => rfl); (case h4 => rfl); (case h5 => rfl))
  | ((with_reducible show HasTy _ _ (D.raw _) _ ∧ _); first | refine ⟨ty_own 0 rfl, ?_⟩ | refine ⟨ty_own 1 rfl, ?_⟩ | refine ⟨ty_own 2 rfl, ?_⟩)
  | ((with_reducible show HasTy _ _ (D.lst _) _ ∧ _); refine ⟨ty_lst, ?_⟩))
local macro_rules | `(tactic| wtm_at "sl a") => `(tactic| first
  | ((with_reducible show AJ _ [] _ _ _ _); refine aj_nil ?_)
  | ((with_reducible show AJ _ (_ :: _) _ _ _ _); (with_reducible refine' aj_cons ?_ ?h1); (case h1 => rfl)))
local macro_rules | `(tactic| wtm_at "sl t") => `(tactic| first
  | ((with_reducible show TJ _ (Expr.UnaryOp UnaryOp.Not _ _) _ _ _ _); refine tj_not ?_)
  | ((with_reducible show TJ _ (Expr.BoolOp _ _ _) _ _ _ _); refine tjs_of ?_)
  | ((with_reducible show TJ _ (Expr.Compare _ [_] _ _) _ _ _ _); (with_reducible refine' tj_cmp ?_ ?h1); (case h1 => first | exact nomark _ | rfl))
  | ((with_reducible show TJ _ (Expr.Compare _ [_, _] _ _) _ _ _ _); (with_reducible refine' tj_chain ?_ ?h1); (case h1 => rfl))
  | ((with_reducible show TJ _ (_) _ _ _ _); (with_reducible refine' tj_b ?_ ?h1); (case h1 => intro _; rfl))
  | ((with_reducible show TJs _ BoolOp.And (_ :: _ :: _) _ _ _ _ _); refine tjs_and ?_)
  | ((with_reducible show TJs _ BoolOp.Or (_ :: _ :: _) _ _ _ _ _); refine tjs_or ?_)
  | ((with_reducible show TJs _ _ [_] _ _ _ _ _); refine tjs_one ?_))
local macro_rules | `(tactic| wtm_at "sl s") => `(tactic| first
  | ((with_reducible show SJ _ [] _ _ _); refine sj_nil ?_)
  | ((with_reducible show SJ _ (Stmt.Return (some _) _ :: _) _ _ _); refine sj_cons (s1_ret ?_))
  | ((with_reducible show SJ _ (Stmt.Return none _ :: _) _ _ _); refine sj_cons (s1_retN ?_))
  | ((with_reducible show SJ _ (Stmt.If _ _ _ _ :: _) _ _ _); refine sj_cons (s1_if ?_))
  | ((with_reducible show SJ _ (Stmt.Pass _ :: _) _ _ _); refine sj_cons (s1_pass ?_))
  | ((with_reducible show SJ _ (Stmt.Break _ :: _) _ _ _); refine sj_cons (s1_break ?_))
  | ((with_reducible show SJ _ (Stmt.Continue _ :: _) _ _ _); refine sj_cons (s1_cont ?_))
  | ((with_reducible show SJ _ (Stmt.Assign [Expr.Subscript _ _ _] _ _ :: _) _ _ _); (with_reducible refine' sj_cons (s1_setI ?_ ?h1 ?h2 ?h3 ?h4)); (case h1 => intro _; rfl); (case h2 => rfl); (case h3 => rfl); (case h4 => rfl))
  | ((with_reducible show SJ _ (Stmt.Expr _ _ :: _) _ _ _); refine sj_cons (s1_expr ?_))
  | ((with_reducible show SJ _ (Stmt.Raise _ _ _ :: _) _ _ _); (with_reducible refine' sj_cons (s1_rs ?h0 ?h1 ?h2 ?h3 ?h4 ?_ ?h5 ?h6)); (case h0 => with_reducible assumption); (case h1 => with_reducible assumption); (case h2 => kernel_rfl); (case h3 => kernel_rfl); (case h4 => kernel_rfl); (case h5 => rfl); (case h6 => rfl))
  | ((with_reducible show SJ _ (Stmt.Assign [Expr.Name _ _] _ _ :: _) _ _ _); (with_reducible refine' sj_cons (s1_nm ?h0 ?h1 ?h2 ?h3 ?h4 ?_ ?h5)); (case h0 => with_reducible assumption); (case h1 => with_reducible assumption); (case h2 => kernel_rfl); (case h3 => kernel_rfl); (case h4 => kernel_rfl); (case h5 => rfl))
  | ((with_reducible show SJ _ (Stmt.AugAssign (Expr.Name _ _) _ _ _ :: _) _ _ _); (with_reducible refine' sj_cons (s1_ag ?h0 ?h1 ?h2 ?h3 ?h4 ?h5 ?_)); (case h0 => with_reducible assumption); (case h1 => with_reducible assumption); (case h2 => kernel_rfl); (case h3 => kernel_rfl); (case h4 => kernel_rfl); (case h5 => rfl))
  | ((with_reducible show SJ _ (Stmt.Assign [Expr.Tuple _ _ _] (Expr.Call _ _ _ _) _ :: _) _ _ _); (with_reducible refine' sj_cons (s1_asg ?_ ?h1 ?h2 ?h3)); (case h1 => rfl); (case h2 => rfl); (case h3 => rfl))
  | ((with_reducible show SJ _ (Stmt.Assign [Expr.Tuple [Expr.Name _ _, Expr.Name _ _] _ _] (Expr.Tuple [_, _] _ _) _ :: _) _ _ _); (with_reducible refine' sj_cons (s1_pr ?h0 ?h1 ?h2 ?h3 ?h4 ?h5 ?h6 ?h7 ?_ ?h8 ?h9)); (case h0 => with_reducible assumption); (case h1 => with_reducible assumption); (case h2 => with_reducible assumption); (case h3 => kernel_rfl); (case h4 => kernel_rfl); (case h5 => decide); (case h6 => kernel_rfl); (case h7 => kernel_rfl); (case h8 => rfl); (case h9 => rfl)))
local macro_rules | `(tactic| wtm_at "sl g") => `(tactic| first
  | ((with_reducible show GJ _ (Expr.Name _ _) _ _ _ _ _); (with_reducible refine' gj_nm ?h0 ?h1 ?h2 ?h3 ?h4 ?_); (case h0 => with_reducible assumption); (case h1 => with_reducible assumption); (case h2 => kernel_rfl); (case h3 => kernel_rfl); (case h4 => kernel_rfl))
  | ((with_reducible show GJ _ (Expr.Tuple [Expr.Name _ _, Expr.Name _ _] _ _) _ _ _ _ _); (with_reducible refine' gj_tp2 ?h0 ?h1 ?h2 ?h3 ?h4 ?h5 ?h6 ?h7 ?h8 ?_); (case h0 => with_reducible assumption); (case h1 => with_reducible assumption); (case h2 => with_reducible assumption); (case h3 => kernel_rfl); (case h4 => kernel_rfl); (case h5 => kernel_rfl); (case h6 => kernel_rfl); (case h7 => kernel_rfl); (case h8 => kernel_rfl))
  | ((with_reducible show GJ _ (Expr.Tuple [Expr.Name _ _, Expr.Name _ _, Expr.Name _ _] _ _) _ _ _ _ _); (with_reducible refine' gj_tp3 ?h0 ?h1 ?h2 ?h3 ?h4 ?h5 ?h6 ?h7 ?h8 ?h9 ?i0 ?i1 ?i2 ?_); (case h0 => with_reducible assumption); (case h1 => with_reducible assumption); (case h2 => with_reducible assumption); (case h3 => with_reducible assumption); (case h4 => kernel_rfl); (case h5 => kernel_rfl); (case h6 => kernel_rfl); (case h7 => kernel_rfl); (case h8 => kernel_rfl); (case h9 => kernel_rfl); (case i0 => kernel_rfl); (case i1 => kernel_rfl); (case i2 => kernel_rfl))
  | ((with_reducible show GJ _ (Expr.Tuple _ _ _) _ _ _ _ _); (with_reducible refine' gj_tp ?h0 ?_ ?h1 ?h2 ?h3); (case h0 => with_reducible assumption); (case h1 => rfl); (case h2 => rfl); (case h3 => rfl))
  | ((with_reducible show GsJ _ (_ :: _) _ _ _ _ _); (with_reducible refine' gsj_cons ?_ ?h1); (case h1 => rfl))
  | ((with_reducible show GsJ _ [] _ _ _ _ _); refine gsj_nil ?_))
local macro_rules | `(tactic| wtm_at "sl i") => `(tactic| first
  | ((with_reducible show IJ _ _ (Expr.Name _ _) _ _ _ _); (with_reducible refine' ij_nm ?h0 ?h1 ?h2 ?h3 ?h4 ?h5 ?h6 ?_); (case h0 => with_reducible assumption); (case h1 => with_reducible assumption); (case h2 => kernel_rfl); (case h3 => kernel_rfl); (case h4 => rfl); (case h5 => kernel_rfl); (case h6 => first | assumption | exact .inl rfl | exact .inr (.inl rfl) | exact .inr (.inr rfl)))
  | ((with_reducible show IJ _ _ (Expr.Call (Expr.Name (Str.ofString "enumerate") _) [_] [] _) _ _ _ _); (with_reducible refine' ij_en ?h0 ?h1 ?h2 ?_ ?h3); (case h0 => with_reducible assumption); (case h1 => with_reducible assumption); (case h2 => kernel_rfl); (case h3 => rfl))
  | ((with_reducible show IJ _ _ (Expr.Call (Expr.Name (Str.ofString "range") _) [_] [] _) _ _ _ _); (with_reducible refine' ij_r1 ?h0 ?h1 ?h2 ?_ ?h3); (case h0 => with_reducible assumption); (case h1 => with_reducible assumption); (case h2 => kernel_rfl); (case h3 => rfl))
  | ((with_reducible show IJ _ _ (Expr.Call (Expr.Name (Str.ofString "range") _) [_, _] [] _) _ _ _ _); (with_reducible refine' ij_r2 ?h0 ?h1 ?h2 ?_ ?h3 ?h4); (case h0 => with_reducible assumption); (case h1 => with_reducible assumption); (case h2 => kernel_rfl); (case h3 => rfl); (case h4 => rfl))
  | ((with_reducible show IJ _ _ (Expr.Call (Expr.Name (Str.ofString "zip") _) [_, _] [] _) _ _ _ _); (with_reducible refine' ij_zp ?h0 ?h1 ?h2 ?_ ?h3 ?h4); (case h0 => with_reducible assumption); (case h1 => with_reducible assumption); (case h2 => kernel_rfl); (case h3 => rfl); (case h4 => rfl)))
local macro_rules | `(tactic| wtm_at "sl o") => `(tactic| first
  | ((with_reducible show OpD _ (binaryOp Operator.Add) (D.int _) (D.int _) _ _); refine od_add ?_)
  | ((with_reducible show OpD _ (inplaceOp Operator.Add) (D.int _) (D.int _) _ _); refine oi_add ?_)
  | ((with_reducible show OpD _ (binaryOp Operator.Sub) (D.int _) (D.int _) _ _); refine od_sub ?_)
  | ((with_reducible show OpD _ (inplaceOp Operator.Sub) (D.int _) (D.int _) _ _); refine oi_sub ?_)
  | ((with_reducible show OpD _ (binaryOp Operator.Mult) (D.int _) (D.int _) _ _); refine od_mulC (by first | exact .inl ⟨by omega, by omega⟩ | exact .inr ⟨by omega, by omega⟩) ?_)
  | ((with_reducible show OpD _ (binaryOp Operator.Pow) (D.int 10) (D.int 9) _ _); refine od_p9 ?_)
  | ((with_reducible show OpD _ (binaryOp Operator.Pow) (D.int 10) (D.int 12) _ _); refine od_p12 ?_)
  | ((with_reducible show OpD _ (binaryOp Operator.Pow) (D.int 10) (D.int 18) _ _); refine od_p18 ?_)
  | ((with_reducible show OpD _ (binaryOp Operator.Pow) (D.int 10) (D.int 20) _ _); refine od_p20 ?_)
  | ((with_reducible show OpD _ (compareOp CmpOp.Lt) (D.int _) (D.int _) _ _); refine od_lt ?_)
  | ((with_reducible show OpD _ (compareOp CmpOp.LtE) (D.int _) (D.int _) _ _); refine od_le ?_)
  | ((with_reducible show OpD _ (compareOp CmpOp.Gt) (D.int _) (D.int _) _ _); refine od_gt ?_)
  | ((with_reducible show OpD _ (compareOp CmpOp.GtE) (D.int _) (D.int _) _ _); refine od_ge ?_)
  | ((with_reducible show OpD _ (compareOp CmpOp.Eq) (D.int _) (D.int _) _ _); refine od_eqI ?_)
  | ((with_reducible show OpD _ (compareOp CmpOp.NotEq) (D.int _) (D.int _) _ _); refine od_neI ?_)
  | ((with_reducible show OpD _ (compareOp CmpOp.Eq) (D.str _) (D.str _) _ _); refine od_eqS ?_)
  | ((with_reducible show UnD _ _ (D.int _) _ _); refine ud_neg ?_)
  | ((with_reducible show ClD _ (Value.builtin "len") [D.lst _] _ _); refine cd_len_lst ?_)
  | ((with_reducible show ClD _ (Value.builtin "len") [D.tup _] _ _); refine cd_len_tup ?_)
  | ((with_reducible show ClD _ (Value.builtin "len") [D.fz _] _ _); refine cd_len_fz ?_)
  | ((with_reducible show ClD _ (Value.type "int") [D.int _] _ _); refine cd_intI ?_)
  | ((with_reducible show ClD _ (Value.type "int") [D.bl _] _ _); refine cd_intB ?_)
  | ((with_reducible show ClD _ (Value.builtin "isinstance") [_, D.ty _] _ _); (with_reducible refine' cd_isi ?h1 ?h2 ?_); (case h1 => first | assumption | rfl); (case h2 => decide))
  | ((with_reducible show ClD _ (Value.builtin "isinstance") [_, D.tup [D.ty _, D.ty _]] _ _); (with_reducible refine' cd_isi2 ?h1 ?h2 ?h3 ?_); (case h1 => first | assumption | rfl); (case h2 => decide); (case h3 => decide)))
local macro_rules | `(tactic| wtm_at "sl v") => `(tactic| first
  | ((with_reducible show OpD _ (binaryOp Operator.Mod) (D.int _) (D.int _) _ _); refine od_modV (by omega) fun r h0 h1 => ?_)
  | ((with_reducible show OpD _ (binaryOp Operator.FloorDiv) (D.int _) (D.int _) _ _); refine od_div (divOk_le (by omega) (by omega)) ?_))
local macro_rules | `(tactic| wtm_at "sl m") => `(tactic| first
  | ((with_reducible show IxD _ (D.raw _) (D.int _) _ _); first | refine id_own 0 rfl rfl ?_ | refine id_own 1 rfl rfl ?_ | refine id_own 2 rfl rfl ?_)
  | ((with_reducible show if true = true then _ else _); refine ite_t ?_)
  | ((with_reducible show if (!false) = true then _ else _); refine ite_nf ?_)
  | ((with_reducible show if (!true) = true then _ else _); refine ite_nt ?_)
  | ((with_reducible show if false = true then _ else _); refine ite_f ?_)
  | ((with_reducible show ∃ k, D.bl _ = D.bl k ∧ _); refine ⟨_, rfl, ?_⟩)
  | ((with_reducible show ∃ i, D.int _ = D.int i ∧ _); refine ⟨_, rfl, ?_⟩)
  | ((with_reducible show OJ _ none _ _ _ _); refine oj_none ?_)
  | ((with_reducible show OJ _ (some _) _ _ _ _); refine oj_some ?_)
  | ((with_reducible show SlD _ (D.lst _) _ _ _ _); refine sd_lst ?_)
  | ((with_reducible show SlD _ (D.fz _) _ _ _ _); refine sd_fz ?_)
  | ((with_reducible show SlD _ (D.tup _) _ _ _ _); refine sd_tup ?_)
  | ((with_reducible show List.length _ ≤ 100000 ∧ _); refine ⟨Nat.le_of_ble_eq_true rfl, ?_⟩))
local macro_rules | `(tactic| wtm_at "sl") => `(tactic| repeat (first | wtm_at "sl e" | wtm_at "sl a" | wtm_at "sl b" | wtm_at "sl f" | wtm_at "sl o" | wtm_at "sl t" | wtm_at "sl s" | wtm_at "sl m" | wtm_at "sl g" | wtm_at "sl i"))
local macro_rules | `(tactic| wtm_at "slv") => `(tactic| repeat (first | wtm_at "sl e" | wtm_at "sl a" | wtm_at "sl b" | wtm_at "sl f" | wtm_at "sl v" | wtm_at "sl o" | wtm_at "sl t" | wtm_at "sl s" | wtm_at "sl m" | wtm_at "sl g" | wtm_at "sl i"))
local macro_rules | `(tactic| wtm_at "sl in") => `(tactic| conv => arg 2; whnf)
local macro_rules | `(tactic| wtm_at "sl r0") => `(tactic| refine ⟨[], List.nil_sublist _, rfl, ?_⟩)
section
variable {X : Cx} {st : Sls} {M : Mem} {Q : DK} {E : EK} {P : Program} {w : World} {K : PySem.W.Frag} {mg : Str → Option Value} {base : Heap} {f : Addr} {fd : FuncData} {d e : D} {es : List D} {lo hi : Int} {i : Int}
/-! ### group weights, extreme groups -/
def Huge (r : List Int) : Prop := ∀ z ∈ r, z.natAbs < 2 ^ 100000
def RowsOk (rows : List D) : Prop := rows.length ≤ 1000000 ∧ ∀ r ∈ rows, ∃ ri : List Int, r = .tup (ri.map .int) ∧ ri.length ≤ 1000000 ∧ Huge ri
def cWeights : Ct := Pc fun ds Q _ => ∃ d ns p rows, ds = [d, p] ∧ d.seq = some (ns.map D.int) ∧ SchOk ns ∧ p.seq = some rows ∧ RowsOk rows ∧ Q (.lst ((rows.map fun r => scaledW ns (rowI r)).map .int))
theorem use_scaled {ns cs : List Int} (hs : d.seq = some (ns.map D.int)) (ok : SchOk ns) (hl : cs.length ≤ 1000000) (hc : Huge cs) (q : Q (.int (scaledW ns cs)) M) : CtJ cScaled 2 [d, .tup (cs.map .int)] st M Q E := ctj_p ⟨d, ns, cs, rfl, hs, ok, hl, hc, q⟩
theorem use_weights {ns : List Int} {p : D} {rows : List D} (hs : d.seq = some (ns.map D.int)) (ok : SchOk ns) (hp : p.seq = some rows) (hr : RowsOk rows) (q : Q (.lst ((rows.map fun r => scaledW ns (rowI r)).map .int)) M) : CtJ cWeights 2 [d, p] st M Q E := ctj_p ⟨d, ns, p, rows, rfl, hs, ok, hp, hr, q⟩
theorem f_group_weights (F : FunD K "group_weights" "group_weights" (defArgs s_group_weights) (defBody s_group_weights) (defScope s_group_weights) [] [] f fd) (B : Bs mg) (h1 : FnI P w K mg base 2 "scaled_weight" p_scaled_weight cScaled) : FnOk P w K mg base (L2.CX P w) 3 f fd p_group_weights (spOf K 2 cWeights) := by
  refine fn_rule F sc_group_weights fun X hX ds M Q E hl hc => ?_
  have cf := hX.cf sc_group_weights
  clear hX hl F
  obtain ⟨n0, n1, n2, _⟩ := nms_group_weights
  obtain ⟨b1, b2, b3, b4, b5, b6, b7, b8, b9, b10, b11, b12, b13, b14, b15, b16, b17, b18, b19⟩ := B
  refine body_p hc fun Q' E' ⟨d, ns, p, rows, e, hs, ok, hp, hr, hq⟩ => ?_
  clear hc
  subst e
  wtm_at "sl in"
  have hpp := seq_cases hp
  wtm_at "sl"
  refine ej_cp [("group", 2)] cf (by kernel_rfl) ?_
  wtm_at "sl"
  refine lcj_map (fun r => .int (scaledW ns (rowI r))) [2] (by decide) hr.1 (fun r hm Y hY => ?_) ?_
  · have cf1 := cf.blk hY
    obtain ⟨ri, rfl, hl, hh⟩ := hr.2 r hm
    wtm_at "sl"
    refine ⟨rfl, fun Y2 hY2 => ?_⟩
    have cf2 := cf.blk hY2
    wtm_at "sl"
    refine use_scaled hs ok hl hh ?_
    exact ⟨by simp only [rowI, val_int], rfl⟩
  · wtm_at "sl r0"
    simpa [Function.comp_def] using hq
/-- the first place of the least, the greatest -/
def IsMin (ws : List Int) (k : Nat) : Prop := ∃ m ∈ ws, (∀ y ∈ ws, m ≤ y) ∧ k = ws.idxOf m
def IsMax (ws : List Int) (k : Nat) : Prop := ∃ m ∈ ws, (∀ y ∈ ws, y ≤ m) ∧ k = ws.idxOf m
theorem IsMin.uniq {ws : List Int} {j k : Nat} (h : IsMin ws j) (h2 : IsMin ws k) : j = k := by
  obtain ⟨m, h1, h3, rfl⟩ := h
  obtain ⟨n, h4, h5, rfl⟩ := h2
  rw [Int.le_antisymm (h3 n h4) (h5 m h1)]
theorem IsMax.uniq {ws : List Int} {j k : Nat} (h : IsMax ws j) (h2 : IsMax ws k) : j = k := by
  obtain ⟨m, h1, h3, rfl⟩ := h
  obtain ⟨n, h4, h5, rfl⟩ := h2
  rw [Int.le_antisymm (h5 m h1) (h3 n h4)]
def cExtreme (K : PySem.W.Frag) (Ext : List Int → Nat → Prop) : Ct := Pc fun ds Q E => ∃ s c p, ds = [s, c, p] ∧ s.kd 1 ∧ c.kd 1 ∧ p.kd 2 ∧ Tame p ∧ match splitErr s c p with
  | some e => E (e.er K)
  | none => ∃ ns rows, s.seq = some (ns.map D.int) ∧ SchOk ns ∧ p.seq = some rows ∧ RowsOk rows ∧ ∀ k, Ext (rows.map fun r => scaledW ns (rowI r)) k → Q (.int (k : Nat))
theorem f_lightest_group (F : FunD K "lightest_group" "lightest_group" (defArgs s_lightest_group) (defBody s_lightest_group) (defScope s_lightest_group) [] [] f fd) (B : Bs mg) (h1 : FnI P w K mg base 5 "require_split" p_require_split (cReqSplit K)) (h2 : FnI P w K mg base 3 "group_weights" p_group_weights cWeights) : FnOk P w K mg base (L2.CX P w) 6 f fd p_lightest_group (spOf K 3 (cExtreme K IsMin)) := by
  refine fn_rule F sc_lightest_group fun X hX ds M Q E hl hc => ?_
  have cf := hX.cf sc_lightest_group
  clear hX hl F
  obtain ⟨n0, n1, n2, n3, _⟩ := nms_lightest_group
  obtain ⟨b1, b2, b3, b4, b5, b6, b7, b8, b9, b10, b11, b12, b13, b14, b15, b16, b17, b18, b19⟩ := B
  refine body_p hc fun Q' E' ⟨s, c, p, e, ks, kc, kp, tp, hq⟩ => ?_
  clear hc
  subst e
  wtm_at "sl in"
  wtm_at "sl"
  refine use_reqSplit ks kc kp tp (fun h => ?_) (fun er h => ?_)
  rotate_left
  · rw [h] at hq
    wtm_at "sl r0"
    exact hq
  rw [h] at hq
  obtain ⟨ns, rows, hs, ok, hp, hr, hq⟩ := hq
  obtain ⟨g, ns', cs, rows', hs', hl', hge', hg', rfl, hcl, hcge, hp', ht, hlen, hrow, hsum⟩ := splitErr_ex h
  rw [hp] at hp'
  cases hp'
  have hne : 0 < (rows.map fun r => scaledW ns (rowI r)).length := by
    rw [List.length_map]
    have := hge' g List.mem_cons_self
    omega
  wtm_at "sl"
  refine use_weights hs ok hp hr ?_
  wtm_at "sl"
  refine cd_minL cf.calm hne fun m hm1 hm2 => ?_
  wtm_at "sl"
  refine md_index hm1 ?_
  wtm_at "sl r0"
  exact hq _ ⟨m, hm1, hm2, rfl⟩
theorem f_heaviest_group (F : FunD K "heaviest_group" "heaviest_group" (defArgs s_heaviest_group) (defBody s_heaviest_group) (defScope s_heaviest_group) [] [] f fd) (B : Bs mg) (h1 : FnI P w K mg base 5 "require_split" p_require_split (cReqSplit K)) (h2 : FnI P w K mg base 3 "group_weights" p_group_weights cWeights) : FnOk P w K mg base (L2.CX P w) 6 f fd p_heaviest_group (spOf K 3 (cExtreme K IsMax)) := by
  refine fn_rule F sc_heaviest_group fun X hX ds M Q E hl hc => ?_
  have cf := hX.cf sc_heaviest_group
  clear hX hl F
  obtain ⟨n0, n1, n2, n3, _⟩ := nms_heaviest_group
  obtain ⟨b1, b2, b3, b4, b5, b6, b7, b8, b9, b10, b11, b12, b13, b14, b15, b16, b17, b18, b19⟩ := B
  refine body_p hc fun Q' E' ⟨s, c, p, e, ks, kc, kp, tp, hq⟩ => ?_
  clear hc
  subst e
  wtm_at "sl in"
  wtm_at "sl"
  refine use_reqSplit ks kc kp tp (fun h => ?_) (fun er h => ?_)
  rotate_left
  · rw [h] at hq
    wtm_at "sl r0"
    exact hq
  rw [h] at hq
  obtain ⟨ns, rows, hs, ok, hp, hr, hq⟩ := hq
  obtain ⟨g, ns', cs, rows', hs', hl', hge', hg', rfl, hcl, hcge, hp', ht, hlen, hrow, hsum⟩ := splitErr_ex h
  rw [hp] at hp'
  cases hp'
  have hne : 0 < (rows.map fun r => scaledW ns (rowI r)).length := by
    rw [List.length_map]
    have := hge' g List.mem_cons_self
    omega
  wtm_at "sl"
  refine use_weights hs ok hp hr ?_
  wtm_at "sl"
  refine cd_maxL cf.calm hne fun m hm1 hm2 => ?_
  wtm_at "sl"
  refine md_index hm1 ?_
  wtm_at "sl r0"
  exact hq _ ⟨m, hm1, hm2, rfl⟩
/-! ### words, sequences -/
def isWord (d : D) (ys : List Str) : Bool := match d with
  | .str z => decide (z ∈ ys)
  | _ => false
def isStr (d : D) : Bool := match d with
  | .str _ => true
  | _ => false
theorem isStr_ty {m : String} (h : d.tyN = some m) : isN m "str" = isStr d := by
  cases d <;> cases h <;> simp [isN, isStr]
def cIsWord : Ct := Pc fun ds Q _ => ∃ d ys, ds = [d, .tup (ys.map .str)] ∧ d.kd 0 ∧ Q (.bl (isWord d ys))
theorem use_isWord {ys : List Str} {t : List D} (ht : t = ys.map .str) (hk : d.kd 0) (q : Q (.bl (isWord d ys)) M) : CtJ cIsWord 2 [d, .tup t] st M Q E := ctj_p ⟨d, ys, by rw [ht], hk, q⟩
theorem f_is_word (F : FunD K "is_word" "is_word" (defArgs s_is_word) (defBody s_is_word) (defScope s_is_word) [] [] f fd) (B : Bs mg)  : FnOk P w K mg base (L2.CX P w) 1 f fd p_is_word (spOf K 2 cIsWord) := by
  refine fn_rule F sc_is_word fun X hX ds M Q E hl hc => ?_
  have cf := hX.cf sc_is_word
  clear hX hl F
  obtain ⟨n0, n1, _⟩ := nms_is_word
  obtain ⟨b1, b2, b3, b4, b5, b6, b7, b8, b9, b10, b11, b12, b13, b14, b15, b16, b17, b18, b19⟩ := B
  refine body_p hc fun Q' E' ⟨d, ys, e, hk, hq⟩ => ?_
  clear hc
  subst e
  wtm_at "sl in"
  obtain ⟨m, hm⟩ := hk
  wtm_at "sl"
  rw [isStr_ty hm]
  refine ite_b (fun h => ?_) (fun h => ?_)
  · cases d with
    | str z =>
      wtm_at "sl"
      refine od_inS ?_
      wtm_at "sl r0"
      exact hq
    | _ => cases h
  · wtm_at "sl r0"
    cases d <;> first | exact hq | cases h
def cIsSeq : Ct := Pc fun ds Q _ => ∃ d, ds = [d] ∧ d.kd 0 ∧ Q (.bl (isLT d))
theorem use_isSeq (hk : d.kd 0) (q : Q (.bl (isLT d)) M) : CtJ cIsSeq 1 [d] st M Q E := ctj_p ⟨d, rfl, hk, q⟩
theorem f_is_sequence (F : FunD K "is_sequence" "is_sequence" (defArgs s_is_sequence) (defBody s_is_sequence) (defScope s_is_sequence) [] [] f fd) (B : Bs mg)  : FnOk P w K mg base (L2.CX P w) 1 f fd p_is_sequence (spOf K 1 cIsSeq) := by
  refine fn_rule F sc_is_sequence fun X hX ds M Q E hl hc => ?_
  have cf := hX.cf sc_is_sequence
  clear hX hl F
  obtain ⟨n0, _⟩ := nms_is_sequence
  obtain ⟨b1, b2, b3, b4, b5, b6, b7, b8, b9, b10, b11, b12, b13, b14, b15, b16, b17, b18, b19⟩ := B
  refine body_p hc fun Q' E' ⟨d, e, hk, hq⟩ => ?_
  clear hc
  subst e
  wtm_at "sl in"
  obtain ⟨m, hm⟩ := hk
  wtm_at "sl"
  rw [isLT_ty hm]
  wtm_at "sl r0"
  exact hq

end
end SL

set_option maxHeartbeats 2000000
namespace SL
open PySem PySem.Spec PyProof.Rows L2 Evl
local macro_rules | `(tactic| wtm_at "sl e") => `(tactic| first
  | ((with_reducible show EJ _ (Expr.Name _ _) _ _ _ _); first | ((with_reducible refine' ej_nm ?h0 ?h1 ?h2 ?h3 ?h4 ?h5 ?_); (case h0 => with_reducible assumption); (case h1 => with_reducible assumption); (case h2 => kernel_rfl); (case h3 => kernel_rfl); (case h4 => rfl); (case h5 => kernel_rfl)) | ((with_reducible refine' ej_cn ?h0 ?h1 ?h2 ?_); (case h0 => with_reducible assumption); (case h1 => with_reducible assumption); (case h2 => kernel_rfl)) | ((with_reducible refine' ej_ty ?h0 ?h1 ?h2 ?_); (case h0 => with_reducible assumption); (case h1 => with_reducible assumption); (case h2 => kernel_rfl)))
  | ((with_reducible show EJ _ (Expr.Constant (Const.int _) _ _) _ _ _ _); refine ej_int ?_)
  | ((with_reducible show EJ _ (Expr.Constant (Const.str _) _ _) _ _ _ _); refine ej_str ?_)
  | ((with_reducible show EJ _ (Expr.Constant (Const.bool _) _ _) _ _ _ _); refine ej_bl ?_)
  | ((with_reducible show EJ _ (Expr.Constant Const.none _ _) _ _ _ _); refine ej_non ?_)
  | ((with_reducible show EJ _ (Expr.BinOp _ _ _ _) _ _ _ _); refine ej_op ?_)
  | ((with_reducible show EJ _ (Expr.UnaryOp UnaryOp.Not _ _) _ _ _ _); refine ej_not ?_)
  | ((with_reducible show EJ _ (Expr.UnaryOp _ _ _) _ _ _ _); refine ej_un ?_)
  | ((with_reducible show EJ _ (Expr.Tuple _ _ _) _ _ _ _); refine ej_tup ?_)
  | ((with_reducible show EJ _ (Expr.BoolOp _ [_] _) _ _ _ _); refine ej_one ?_)
  | ((with_reducible show EJ _ (Expr.BoolOp BoolOp.And _ _) _ _ _ _); refine ej_and ?_)
  | ((with_reducible show EJ _ (Expr.BoolOp BoolOp.Or _ _) _ _ _ _); refine ej_or ?_)
  | ((with_reducible show EJ _ (Expr.IfExp _ _ _ _) _ _ _ _); refine ej_if ?_)
  | ((with_reducible show EJ _ (Expr.Compare _ [_] _ _) _ _ _ _); (with_reducible refine' ej_cmp ?_ ?h1); (case h1 => first | exact nomark _ | rfl))
  | ((with_reducible show EJ _ (Expr.Compare _ [_, _] _ _) _ _ _ _); (with_reducible refine' ej_chain ?_ ?h1); (case h1 => rfl))
  | ((with_reducible show EJ _ (Expr.Subscript _ (Expr.Slice _ _ _ _) _) _ _ _ _); refine ej_slice ?_)
  | ((with_reducible show EJ _ (Expr.Subscript _ _ _) _ _ _ _); (with_reducible refine' ej_ix ?_ ?h1); (case h1 => intro _ _; rfl))
  | ((with_reducible show EJ _ (Expr.Call (Expr.Name _ _) (_ :: _) [] _) _ _ _ _); first | ((with_reducible refine' ej_cB ?h0 ?h1 ?h2 ?_ ?h3 ?h4); (case h0 => with_reducible assumption); (case h1 => with_reducible assumption); (case h2 => kernel_rfl); (case h3 => rfl); (case h4 => rfl)) | ((with_reducible refine' ej_cT ?h0 ?h1 ?h2 ?_ ?h3 ?h4); (case h0 => with_reducible assumption); (case h1 => with_reducible assumption); (case h2 => kernel_rfl); (case h3 => rfl); (case h4 => rfl)) | ((with_reducible refine' ej_fn ?h0 ?h1 ?h2 ?h3 ?h4 ?_ ?h5 ?h6); (case h0 => with_reducible assumption); (case h1 => with_reducible assumption); (case h2 => kernel_rfl); (case h3 => kernel_rfl); (case h4 => kernel_rfl); (case h5 => rfl); (case h6 => rfl)) | ((with_reducible refine' ej_mk ?h0 ?h1 ?h2 ?h3 ?h4 ?_ ?h5 ?h6); (case h0 => with_reducible assumption); (case h1 => with_reducible assumption); (case h2 => kernel_rfl); (case h3 => kernel_rfl); (case h4 => kernel_rfl); (case h5 => rfl); (case h6 => rfl))))
local macro_rules | `(tactic| wtm_at "sl f") => `(tactic| first
  | ((with_reducible show EJ _ (Expr.Attribute _ _ _) _ _ _ _); (with_reducible refine' ej_fl ?h0 ?h1 ?h2 ?_ ?h3); (case h0 => with_reducible assumption); (case h1 => with_reducible assumption); (case h2 => with_reducible assumption); (case h3 => rfl))
  | ((with_reducible show SJ _ (Stmt.Assign [Expr.Attribute _ _ _] _ _ :: _) _ _ _); (with_reducible refine' sj_cons (s1_fl ?h0 ?h1 ?h2 ?_ ?h3)); (case h0 => with_reducible assumption); (case h1 => with_reducible assumption); (case h2 => with_reducible assumption); (case h3 => rfl))
  | ((with_reducible show EJ _ (Expr.Call (Expr.Attribute _ _ _) (_ :: _) [] _) _ _ _ _); (with_reducible refine' ej_mt ?h0 ?h1 ?h2 ?_ ?h3 ?h4 ?h5); (case h0 => with_reducible assumption); (case h1 => with_reducible assumption); (case h2 => kernel_rfl); (case h3 => rfl); (case h4 => rfl); (case h5 => rfl))
  | ((with_reducible show EJ _ (Expr.Call (Expr.Attribute _ _ _) [] [] _) _ _ _ _); (with_reducible refine' ej_mt0 ?h0 ?h1 ?h2 ?_ ?h3); (case h0 => with_reducible assumption); (case h1 => with_reducible assumption); (case h2 => kernel_rfl); (case h3 => rfl)))
local macro_rules | `(tactic| wtm_at "sl h") => `(tactic| first
  | ((with_reducible show ∃ d, FldD (D.ins _ _) _ _ d _ ∧ _); refine ⟨_, ⟨_, rfl, .inl rfl⟩, ?_⟩)
  | ((with_reducible show InsAt (D.ins _ _) _ _ _ ∧ _); refine ⟨⟨_, rfl, .inl rfl⟩, ?_⟩))
local macro_rules | `(tactic| wtm_at "sl b") => `(tactic| first
  | ((with_reducible show EJ _ (Expr.Call (Expr.Attribute _ (Str.ofString "append") _) (_ :: _) [] _) _ _ _ _); (with_reducible refine' ej_bm PySem.F.plainAttrs_list PySem.F.slot_list_append PySem.F.type_list_append ?_ ?h1 ?h2 ?h3 ?h4 ?h5); (case h1 => rfl); (case h2 => rfl); (case h3 => rfl); (case h4 => rfl); (case h5 => rfl))
  | ((with_reducible show EJ _ (Expr.Call (Expr.Attribute _ (Str.ofString "extend") _) (_ :: _) [] _) _ _ _ _); (with_reducible refine' ej_bm PySem.F.plainAttrs_list PySem.F.slot_list_extend PySem.F.type_list_extend ?_ ?h1 ?h2 ?h3 ?h4 ?h5); (case h1 => rfl); (case h2 => rfl); (case h3 => rfl); (case h4 => rfl); (case h5 => rfl))
  | ((with_reducible show EJ _ (Expr.Call (Expr.Attribute _ (Str.ofString "pop") _) (_ :: _) [] _) _ _ _ _); (with_reducible refine' ej_bm PySem.F.plainAttrs_list PySem.F.slot_list_pop PySem.F.type_list_pop ?_ ?h1 ?h2 ?h3 ?h4 ?h5); (case h1 => rfl); (case h2 => rfl); (case h3 => rfl); (case h4 => rfl); (case h5 => rfl))
  | ((with_reducible show EJ _ (Expr.Call (Expr.Attribute _ (Str.ofString "pop") _) [] [] _) _ _ _ _); (with_reducible refine' ej_bm0 PySem.F.plainAttrs_list PySem.F.slot_list_pop PySem.F.type_list_pop ?_ ?h1 ?h2); (case h1 => rfl); (case h2 => rfl))
  | ((with_reducible show EJ _ (Expr.Call (Expr.Attribute _ (Str.ofString "reverse") _) [] [] _) _ _ _ _); (with_reducible refine' ej_bm0 PySem.F.plainAttrs_list PySem.F.slot_list_reverse PySem.F.type_list_reverse ?_ ?h1 ?h2); (case h1 => rfl); (case h2 => rfl))
  | ((with_reducible show EJ _ (Expr.Call (Expr.Attribute _ (Str.ofString "clear") _) [] [] _) _ _ _ _); (with_reducible refine' ej_bm0 PySem.F.plainAttrs_list PySem.F.slot_list_clear PySem.F.type_list_clear ?_ ?h1 ?h2); (case h1 => rfl); (case h2 => rfl))
  | ((with_reducible show EJ _ (Expr.Call (Expr.Attribute _ (Str.ofString "index") _) (_ :: _) [] _) _ _ _ _); (with_reducible refine' ej_bm PySem.F.plainAttrs_list PySem.F.slot_list_index PySem.F.type_list_index ?_ ?h1 ?h2 ?h3 ?h4 ?h5); (case h1 => rfl); (case h2 => rfl); (case h3 => rfl); (case h4 => rfl); (case h5 => rfl))
  | ((with_reducible show HasTy _ _ (D.raw _) _ ∧ _); first | refine ⟨ty_own 0 rfl, ?_⟩ | refine ⟨ty_own 1 rfl, ?_⟩ | refine ⟨ty_own 2 rfl, ?_⟩)
  | ((with_reducible show HasTy _ _ (D.lst _) _ ∧ _); refine ⟨ty_lst, ?_⟩))
local macro_rules | `(tactic| wtm_at "sl a") => `(tactic| first
  | ((with_reducible show AJ _ [] _ _ _ _); refine aj_nil ?_)
  | ((with_reducible show AJ _ (_ :: _) _ _ _ _); (with_reducible refine' aj_cons ?_ ?h1); (case h1 => rfl)))
local macro_rules | `(tactic| wtm_at "sl t") => `(tactic| first
  | ((with_reducible show TJ _ (Expr.UnaryOp UnaryOp.Not _ _) _ _ _ _); refine tj_not ?_)
  | ((with_reducible show TJ _ (Expr.BoolOp _ _ _) _ _ _ _); refine tjs_of ?_)
  | ((with_reducible show TJ _ (Expr.Compare _ [_] _ _) _ _ _ _); (with_reducible refine' tj_cmp ?_ ?h1); (case h1 => first | exact nomark _ | rfl))
  | ((with_reducible show TJ _ (Expr.Compare _ [_, _] _ _) _ _ _ _); (with_reducible refine' tj_chain ?_ ?h1); (case h1 => rfl))
  | ((with_reducible show TJ _ (_) _ _ _ _); (with_reducible refine' tj_b ?_ ?h1); (case h1 => intro _; rfl))
  | ((with_reducible show TJs _ BoolOp.And (_ :: _ :: _) _ _ _ _ _); refine tjs_and ?_)
  | ((with_reducible show TJs _ BoolOp.Or (_ :: _ :: _) _ _ _ _ _); refine tjs_or ?_)
  | ((with_reducible show TJs _ _ [_] _ _ _ _ _); refine tjs_one ?_))
local macro_rules | `(tactic| wtm_at "sl s") => `(tactic| first
  | ((with_reducible show SJ _ [] _ _ _); refine sj_nil ?_)
  | ((with_reducible show SJ _ (Stmt.Return (some _) _ :: _) _ _ _); refine sj_cons (s1_ret ?_))
  | ((with_reducible show SJ _ (Stmt.Return none _ :: _) _ _ _); refine sj_cons (s1_retN ?_))
  | ((with_reducible show SJ _ (Stmt.If _ _ _ _ :: _) _ _ _); refine sj_cons (s1_if ?_))
  | ((with_reducible show SJ _ (Stmt.Pass _ :: _) _ _ _); refine sj_cons (s1_pass ?_))
  | ((with_reducible show SJ _ (Stmt.Break _ :: _) _ _ _); refine sj_cons (s1_break ?_))
  | ((with_reducible show SJ _ (Stmt.Continue _ :: _) _ _ _); refine sj_cons (s1_cont ?_))
  | ((with_reducible show SJ _ (Stmt.Assign [Expr.Subscript _ _ _] _ _ :: _) _ _ _); (with_reducible refine' sj_cons (s1_setI ?_ ?h1 ?h2 ?h3 ?h4)); (case h1 => intro _; rfl); (case h2 => rfl); (case h3 => rfl); (case h4 => rfl))
  | ((with_reducible show SJ _ (Stmt.Expr _ _ :: _) _ _ _); refine sj_cons (s1_expr ?_))
  | ((with_reducible show SJ _ (Stmt.Raise _ _ _ :: _) _ _ _); (with_reducible refine' sj_cons (s1_rs ?h0 ?h1 ?h2 ?h3 ?h4 ?_ ?h5 ?h6)); (case h0 => with_reducible assumption); (case h1 => with_reducible assumption); (case h2 => kernel_rfl); (case h3 => kernel_rfl); (case h4 => kernel_rfl); (case h5 => rfl); (case h6 => rfl))
  | ((with_reducible show SJ _ (Stmt.Assign [Expr.Name _ _] _ _ :: _) _ _ _); (with_reducible refine' sj_cons (s1_nm ?h0 ?h1 ?h2 ?h3 ?h4 ?_ ?h5)); (case h0 => with_reducible assumption); (case h1 => with_reducible assumption); (case h2 => kernel_rfl); (case h3 => kernel_rfl); (case h4 => kernel_rfl); (case h5 => rfl))
  | ((with_reducible show SJ _ (Stmt.AugAssign (Expr.Name _ _) _ _ _ :: _) _ _ _); (with_reducible refine' sj_cons (s1_ag ?h0 ?h1 ?h2 ?h3 ?h4 ?h5 ?_)); (case h0 => with_reducible assumption); (case h1 => with_reducible assumption); (case h2 => kernel_rfl); (case h3 => kernel_rfl); (case h4 => kernel_rfl); (case h5 => rfl))
  | ((with_reducible show SJ _ (Stmt.Assign [Expr.Tuple _ _ _] (Expr.Call _ _ _ _) _ :: _) _ _ _); (with_reducible refine' sj_cons (s1_asg ?_ ?h1 ?h2 ?h3)); (case h1 => rfl); (case h2 => rfl); (case h3 => rfl))
  | ((with_reducible show SJ _ (Stmt.Assign [Expr.Tuple [Expr.Name _ _, Expr.Name _ _] _ _] (Expr.Tuple [_, _] _ _) _ :: _) _ _ _); (with_reducible refine' sj_cons (s1_pr ?h0 ?h1 ?h2 ?h3 ?h4 ?h5 ?h6 ?h7 ?_ ?h8 ?h9)); (case h0 => with_reducible assumption); (case h1 => with_reducible assumption); (case h2 => with_reducible assumption); (case h3 => kernel_rfl); (case h4 => kernel_rfl); (case h5 => decide); (case h6 => kernel_rfl); (case h7 => kernel_rfl); (case h8 => rfl); (case h9 => rfl)))
local macro_rules | `(tactic| wtm_at "sl g") => `(tactic| first
  | ((with_reducible show GJ _ (Expr.Name _ _) _ _ _ _ _); (with_reducible refine' gj_nm ?h0 ?h1 ?h2 ?h3 ?h4 ?_); (case h0 => with_reducible assumption); (case h1 => with_reducible assumption); (case h2 => kernel_rfl); (case h3 => kernel_rfl); (case h4 => kernel_rfl))
  | ((with_reducible show GJ _ (Expr.Tuple [Expr.Name _ _, Expr.Name _ _] _ _) _ _ _ _ _); (with_reducible refine' gj_tp2 ?h0 ?h1 ?h2 ?h3 ?h4 ?h5 ?h6 ?h7 ?h8 ?_); (case h0 => with_reducible assumption); (case h1 => with_reducible assumption); (case h2 => with_reducible assumption); (case h3 => kernel_rfl); (case h4 => kernel_rfl); (case h5 => kernel_rfl); (case h6 => kernel_rfl); (case h7 => kernel_rfl); (case h8 => kernel_rfl))
  | ((with_reducible show GJ _ (Expr.Tuple [Expr.Name _ _, Expr.Name _ _, Expr.Name _ _] _ _) _ _ _ _ _); (with_reducible refine' gj_tp3 ?h0 ?h1 ?h2 ?h3 ?h4 ?h5 ?h6 ?h7 ?h8 ?h9 ?i0 ?i1 ?i2 ?_); (case h0 => with_reducible assumption); (case h1 => with_reducible assumption); (case h2 => with_reducible assumption); (case h3 => with_reducible assumption); (case h4 => kernel_rfl); (case h5 => kernel_rfl); (case h6 => kernel_rfl); (case h7 => kernel_rfl); (case h8 => kernel_rfl); (case h9 => kernel_rfl); (case i0 => kernel_rfl); (case i1 => kernel_rfl); (case i2 => kernel_rfl))
  | ((with_reducible show GJ _ (Expr.Tuple _ _ _) _ _ _ _ _); (with_reducible refine' gj_tp ?h0 ?_ ?h1 ?h2 ?h3); (case h0 => with_reducible assumption); (case h1 => rfl); (case h2 => rfl); (case h3 => rfl))
  | ((with_reducible show GsJ _ (_ :: _) _ _ _ _ _); (with_reducible refine' gsj_cons ?_ ?h1); (case h1 => rfl))
  | ((with_reducible show GsJ _ [] _ _ _ _ _); refine gsj_nil ?_))
local macro_rules | `(tactic| wtm_at "sl i") => `(tactic| first
  | ((with_reducible show IJ _ _ (Expr.Name _ _) _ _ _ _); (with_reducible refine' ij_nm ?h0 ?h1 ?h2 ?h3 ?h4 ?h5 ?h6 ?_); (case h0 => with_reducible assumption); (case h1 => with_reducible assumption); (case h2 => kernel_rfl); (case h3 => kernel_rfl); (case h4 => rfl); (case h5 => kernel_rfl); (case h6 => first | assumption | exact .inl rfl | exact .inr (.inl rfl) | exact .inr (.inr rfl)))
  | ((with_reducible show IJ _ _ (Expr.Call (Expr.Name (Str.ofString "enumerate") _) [_] [] _) _ _ _ _); (with_reducible refine' ij_en ?h0 ?h1 ?h2 ?_ ?h3); (case h0 => with_reducible assumption); (case h1 => with_reducible assumption); (case h2 => kernel_rfl); (case h3 => rfl))
  | ((with_reducible show IJ _ _ (Expr.Call (Expr.Name (Str.ofString "range") _) [_] [] _) _ _ _ _); (with_reducible refine' ij_r1 ?h0 ?h1 ?h2 ?_ ?h3); (case h0 => with_reducible assumption); (case h1 => with_reducible assumption); (case h2 => kernel_rfl); (case h3 => rfl))
  | ((with_reducible show IJ _ _ (Expr.Call (Expr.Name (Str.ofString "range") _) [_, _] [] _) _ _ _ _); (with_reducible refine' ij_r2 ?h0 ?h1 ?h2 ?_ ?h3 ?h4); (case h0 => with_reducible assumption); (case h1 => with_reducible assumption); (case h2 => kernel_rfl); (case h3 => rfl); (case h4 => rfl))
  | ((with_reducible show IJ _ _ (Expr.Call (Expr.Name (Str.ofString "zip") _) [_, _] [] _) _ _ _ _); (with_reducible refine' ij_zp ?h0 ?h1 ?h2 ?_ ?h3 ?h4); (case h0 => with_reducible assumption); (case h1 => with_reducible assumption); (case h2 => kernel_rfl); (case h3 => rfl); (case h4 => rfl)))
local macro_rules | `(tactic| wtm_at "sl o") => `(tactic| first
  | ((with_reducible show OpD _ (binaryOp Operator.Add) (D.int _) (D.int _) _ _); refine od_add ?_)
  | ((with_reducible show OpD _ (inplaceOp Operator.Add) (D.int _) (D.int _) _ _); refine oi_add ?_)
  | ((with_reducible show OpD _ (binaryOp Operator.Sub) (D.int _) (D.int _) _ _); refine od_sub ?_)
  | ((with_reducible show OpD _ (inplaceOp Operator.Sub) (D.int _) (D.int _) _ _); refine oi_sub ?_)
  | ((with_reducible show OpD _ (binaryOp Operator.Mult) (D.int _) (D.int _) _ _); refine od_mulC (by first | exact .inl ⟨by omega, by omega⟩ | exact .inr ⟨by omega, by omega⟩) ?_)
  | ((with_reducible show OpD _ (binaryOp Operator.Pow) (D.int 10) (D.int 9) _ _); refine od_p9 ?_)
  | ((with_reducible show OpD _ (binaryOp Operator.Pow) (D.int 10) (D.int 12) _ _); refine od_p12 ?_)
  | ((with_reducible show OpD _ (binaryOp Operator.Pow) (D.int 10) (D.int 18) _ _); refine od_p18 ?_)
  | ((with_reducible show OpD _ (binaryOp Operator.Pow) (D.int 10) (D.int 20) _ _); refine od_p20 ?_)
  | ((with_reducible show OpD _ (compareOp CmpOp.Lt) (D.int _) (D.int _) _ _); refine od_lt ?_)
  | ((with_reducible show OpD _ (compareOp CmpOp.LtE) (D.int _) (D.int _) _ _); refine od_le ?_)
  | ((with_reducible show OpD _ (compareOp CmpOp.Gt) (D.int _) (D.int _) _ _); refine od_gt ?_)
  | ((with_reducible show OpD _ (compareOp CmpOp.GtE) (D.int _) (D.int _) _ _); refine od_ge ?_)
  | ((with_reducible show OpD _ (compareOp CmpOp.Eq) (D.int _) (D.int _) _ _); refine od_eqI ?_)
  | ((with_reducible show OpD _ (compareOp CmpOp.NotEq) (D.int _) (D.int _) _ _); refine od_neI ?_)
  | ((with_reducible show OpD _ (compareOp CmpOp.Eq) (D.str _) (D.str _) _ _); refine od_eqS ?_)
  | ((with_reducible show UnD _ _ (D.int _) _ _); refine ud_neg ?_)
  | ((with_reducible show ClD _ (Value.builtin "len") [D.lst _] _ _); refine cd_len_lst ?_)
  | ((with_reducible show ClD _ (Value.builtin "len") [D.tup _] _ _); refine cd_len_tup ?_)
  | ((with_reducible show ClD _ (Value.builtin "len") [D.fz _] _ _); refine cd_len_fz ?_)
  | ((with_reducible show ClD _ (Value.type "int") [D.int _] _ _); refine cd_intI ?_)
  | ((with_reducible show ClD _ (Value.type "int") [D.bl _] _ _); refine cd_intB ?_)
  | ((with_reducible show ClD _ (Value.builtin "isinstance") [_, D.ty _] _ _); (with_reducible refine' cd_isi ?h1 ?h2 ?_); (case h1 => first | assumption | rfl); (case h2 => decide))
  | ((with_reducible show ClD _ (Value.builtin "isinstance") [_, D.tup [D.ty _, D.ty _]] _ _); (with_reducible refine' cd_isi2 ?h1 ?h2 ?h3 ?_); (case h1 => first | assumption | rfl); (case h2 => decide); (case h3 => decide)))
local macro_rules | `(tactic| wtm_at "sl v") => `(tactic| first
  | ((with_reducible show OpD _ (binaryOp Operator.Mod) (D.int _) (D.int _) _ _); refine od_modV (by omega) fun r h0 h1 => ?_)
  | ((with_reducible show OpD _ (binaryOp Operator.FloorDiv) (D.int _) (D.int _) _ _); refine od_div (divOk_le (by omega) (by omega)) ?_))
local macro_rules | `(tactic| wtm_at "sl m") => `(tactic| first
  | ((with_reducible show IxD _ (D.raw _) (D.int _) _ _); first | refine id_own 0 rfl rfl ?_ | refine id_own 1 rfl rfl ?_ | refine id_own 2 rfl rfl ?_)
  | ((with_reducible show if true = true then _ else _); refine ite_t ?_)
  | ((with_reducible show if (!false) = true then _ else _); refine ite_nf ?_)
  | ((with_reducible show if (!true) = true then _ else _); refine ite_nt ?_)
  | ((with_reducible show if false = true then _ else _); refine ite_f ?_)
  | ((with_reducible show ∃ k, D.bl _ = D.bl k ∧ _); refine ⟨_, rfl, ?_⟩)
  | ((with_reducible show ∃ i, D.int _ = D.int i ∧ _); refine ⟨_, rfl, ?_⟩)
  | ((with_reducible show OJ _ none _ _ _ _); refine oj_none ?_)
  | ((with_reducible show OJ _ (some _) _ _ _ _); refine oj_some ?_)
  | ((with_reducible show SlD _ (D.lst _) _ _ _ _); refine sd_lst ?_)
  | ((with_reducible show SlD _ (D.fz _) _ _ _ _); refine sd_fz ?_)
  | ((with_reducible show SlD _ (D.tup _) _ _ _ _); refine sd_tup ?_)
  | ((with_reducible show List.length _ ≤ 100000 ∧ _); refine ⟨Nat.le_of_ble_eq_true rfl, ?_⟩))
local macro_rules | `(tactic| wtm_at "sl") => `(tactic| repeat (first | wtm_at "sl e" | wtm_at "sl a" | wtm_at "sl b" | wtm_at "sl f" | wtm_at "sl h" | wtm_at "sl o" | wtm_at "sl t" | wtm_at "sl s" | wtm_at "sl m" | wtm_at "sl g" | wtm_at "sl i"))
local macro_rules | `(tactic| wtm_at "slv") => `(tactic| repeat (first | wtm_at "sl e" | wtm_at "sl a" | wtm_at "sl b" | wtm_at "sl f" | wtm_at "sl h" | wtm_at "sl v" | wtm_at "sl o" | wtm_at "sl t" | wtm_at "sl s" | wtm_at "sl m" | wtm_at "sl g" | wtm_at "sl i"))
local macro_rules | `(tactic| wtm_at "sl in") => `(tactic| conv => arg 2; whnf)
local macro_rules | `(tactic| wtm_at "sl r0") => `(tactic| refine ⟨[], List.nil_sublist _, rfl, ?_⟩)
section
variable {X : Cx} {st : Sls} {M : Mem} {Q : DK} {E : EK} {P : Program} {w : World} {K : PySem.W.Frag} {mg : Str → Option Value} {base : Heap} {f : Addr} {fd : FuncData} {d e : D} {es : List D} {lo hi : Int} {i : Int}
/-! ### choosers -/
theorem cd_listS (hs : d.seq = some es) (q : ∀ l, Q (.raw (.ref l)) ((l, .lst es) :: M)) : ClD X (.type "list") [d] M Q := by
  rcases seq_cases hs with rfl | rfl | rfl
  · exact cd_listO (.inl rfl) q
  · exact cd_listO (.inr (.inl rfl)) q
  · exact cd_listO (.inr (.inr rfl)) q
def listOk (d : D) : Bool := match d.seq with
  | some es => es.all fun e => atLeast e 0
  | none => false
def lightS : Str := "lightest"
def heavyS : Str := "heaviest"
def chOk (d : D) : Bool := listOk d || isWord d [lightS, heavyS]
def chStrat (d : D) : D := match d.seq with
  | some es => .lst es
  | none => d
def cChInit (K : PySem.W.Frag) (C : Addr) : Ct := Gc fun ds M Q E => ∃ a d, ds = [.raw (.ref a), d] ∧ M = [(a, .ins C [])] ∧ d.kd 1 ∧ (∀ es, d.seq = some es → es.length ≤ 1000000) ∧ if chOk d = true then (match d.seq with
  | some es => ∀ l, Q .non [(l, .lst es), (a, .ins C [("strategy", .raw (.ref l))])]
  | none => Q .non [(a, .ins C [("strategy", d)])]) else ∀ M', E ((Err.strategy d).er K) M'
theorem isLT_listOk (h : isLT d = false) : listOk d = false := by simp [listOk, isLT_none h]
theorem word_not_seq {ys : List Str} (h : d.seq = some es) : isWord d ys = false := by
  rcases seq_cases h with rfl | rfl | rfl <;> rfl
theorem f_Chooser___init__ (F : FunD K "__init__" "Chooser.__init__" (defArgs s_Chooser___init__) (defBody s_Chooser___init__) (defScope s_Chooser___init__) [] [] f fd) (B : Bs mg) {C : Addr} (h1 : FnI P w K mg base 1 "is_sequence" p_is_sequence cIsSeq) (h2 : FnI P w K mg base 2 "is_at_least" p_is_at_least cAtLeast) (h3 : FnI P w K mg base 1 "is_word" p_is_word cIsWord) (c1 : Cn mg "LIGHTEST" (.str lightS)) (c2 : Cn mg "HEAVIEST" (.str heavyS)) (x1 : ExcI P w K mg base "InvalidStrategy" "strategy" (He.ga K "InvalidStrategy")) (k1 : Cls K C) (k2 : NoAttr K C "strategy") : FnOk P w K mg base (L2.CX P w) 6 f fd p_Chooser___init__ (spOf K 2 (cChInit K C)) := by
  refine fn_rule F sc_Chooser___init__ fun X hX ds M Q E hl hc => ?_
  have cf := hX.cf sc_Chooser___init__
  clear hX hl F
  obtain ⟨n0, n1, n2, n3, _⟩ := nms_Chooser___init__
  obtain ⟨b1, b2, b3, b4, b5, b6, b7, b8, b9, b10, b11, b12, b13, b14, b15, b16, b17, b18, b19⟩ := B
  refine body_g hc fun Q' E' ⟨a, d, e, em, hk, hl, hq⟩ => ?_
  clear hc
  subst e
  wtm_at "sl in"
  subst em
  have hk0 : d.kd 0 := hk.ty
  wtm_at "sl"
  refine use_isSeq hk0 ?_
  wtm_at "sl"
  refine ite_b (fun h => ?_) (fun h => ?_)
  · obtain ⟨es, hs⟩ := isLT_some h
    have hs2 := seq_cases hs
    have hw := word_not_seq (ys := [lightS, heavyS]) hs
    wtm_at "sl"
    refine ej_cp [("entry", 3)] cf (by kernel_rfl) ?_
    wtm_at "sl"
    refine lcj_map (fun e => .bl (atLeast e 0)) [3] (by decide) (hl es hs) (fun e he Y hY => ?_) ?_
    · have cf1 := cf.blk hY
      wtm_at "sl"
      refine ⟨rfl, fun Y2 hY2 => ?_⟩
      have cf2 := cf.blk hY2
      wtm_at "sl"
      refine use_atLeast (hk.2 es hs e he) ?_
      exact ⟨rfl, rfl⟩
    · wtm_at "sl"
      rw [map_bl]
      refine cd_all cf.calm ?_
      have e1 : ((es.map fun e => atLeast e 0).all id) = listOk d := by simp [listOk, hs, List.all_map, Function.comp_def]
      rw [e1]
      wtm_at "sl"
      refine use_isWord (ys := [lightS, heavyS]) rfl hk0 ?_
      rw [hw]
      wtm_at "sl"
      refine ite_b (fun h5 => ?_) (fun h5 => ?_)
      · wtm_at "sl"
        refine ⟨_, List.Sublist.refl _, ?_⟩
        rw [if_neg (by simpa [chOk, hw] using h5)] at hq
        exact hq _
      · wtm_at "sl"
        refine ite_b (fun h6 => ?_) (fun h6 => ?_)
        · wtm_at "sl"
          refine cd_listS hs fun l => ?_
          wtm_at "sl"
          refine ⟨a, 1, [], rfl, rfl, by decide, ?_⟩
          wtm_at "sl"
          refine ⟨_, List.Sublist.refl _, ?_⟩
          rw [if_pos (by simp [chOk, h6]), hs] at hq
          exact hq l
        · simp [h6] at h5
  · have hno := isLT_listOk h
    have hsn := isLT_none h
    wtm_at "sl"
    refine use_isWord (ys := [lightS, heavyS]) rfl hk0 ?_
    wtm_at "sl"
    refine ite_b (fun h5 => ?_) (fun h5 => ?_)
    · wtm_at "sl"
      refine ⟨_, List.Sublist.refl _, ?_⟩
      rw [if_neg (by simpa [chOk, hno] using h5)] at hq
      exact hq _
    · wtm_at "sl"
      refine ⟨a, 0, [], rfl, rfl, by decide, ?_⟩
      wtm_at "sl"
      refine ⟨_, List.Sublist.refl _, ?_⟩
      rw [if_pos (by simpa [chOk, hno] using h5)] at hq
      rw [hsn] at hq
      exact hq

end
end SL

set_option maxHeartbeats 2000000
namespace SL
open PySem PySem.Spec PyProof.Rows L2 Evl
local macro_rules | `(tactic| wtm_at "sl e") => `(tactic| first
  | ((with_reducible show EJ _ (Expr.Name _ _) _ _ _ _); first | ((with_reducible refine' ej_nm ?h0 ?h1 ?h2 ?h3 ?h4 ?h5 ?_); (case h0 => with_reducible assumption); (case h1 => with_reducible assumption); (case h2 => kernel_rfl); (case h3 => kernel_rfl); (case h4 => rfl); (case h5 => kernel_rfl)) | ((with_reducible refine' ej_cn ?h0 ?h1 ?h2 ?_); (case h0 => with_reducible assumption); (case h1 => with_reducible assumption); (case h2 => kernel_rfl)) | ((with_reducible refine' ej_ty ?h0 ?h1 ?h2 ?_); (case h0 => with_reducible assumption); (case h1 => with_reducible assumption); (case h2 => kernel_rfl)))
  | ((with_reducible show EJ _ (Expr.Constant (Const.int _) _ _) _ _ _ _); refine ej_int ?_)
  | ((with_reducible show EJ _ (Expr.Constant (Const.str _) _ _) _ _ _ _); refine ej_str ?_)
  | ((with_reducible show EJ _ (Expr.Constant (Const.bool _) _ _) _ _ _ _); refine ej_bl ?_)
  | ((with_reducible show EJ _ (Expr.Constant Const.none _ _) _ _ _ _); refine ej_non ?_)
  | ((with_reducible show EJ _ (Expr.BinOp _ _ _ _) _ _ _ _); refine ej_op ?_)
  | ((with_reducible show EJ _ (Expr.UnaryOp UnaryOp.Not _ _) _ _ _ _); refine ej_not ?_)
  | ((with_reducible show EJ _ (Expr.UnaryOp _ _ _) _ _ _ _); refine ej_un ?_)
  | ((with_reducible show EJ _ (Expr.Tuple _ _ _) _ _ _ _); refine ej_tup ?_)
  | ((with_reducible show EJ _ (Expr.BoolOp _ [_] _) _ _ _ _); refine ej_one ?_)
  | ((with_reducible show EJ _ (Expr.BoolOp BoolOp.And _ _) _ _ _ _); refine ej_and ?_)
  | ((with_reducible show EJ _ (Expr.BoolOp BoolOp.Or _ _) _ _ _ _); refine ej_or ?_)
  | ((with_reducible show EJ _ (Expr.IfExp _ _ _ _) _ _ _ _); refine ej_if ?_)
  | ((with_reducible show EJ _ (Expr.Compare _ [_] _ _) _ _ _ _); (with_reducible refine' ej_cmp ?_ ?h1); (case h1 => first | exact nomark _ | rfl))
  | ((with_reducible show EJ _ (Expr.Compare _ [_, _] _ _) _ _ _ _); (with_reducible refine' ej_chain ?_ ?h1); (case h1 => rfl))
  | ((with_reducible show EJ _ (Expr.Subscript _ (Expr.Slice _ _ _ _) _) _ _ _ _); refine ej_slice ?_)
  | ((with_reducible show EJ _ (Expr.Subscript _ _ _) _ _ _ _); (with_reducible refine' ej_ix ?_ ?h1); (case h1 => intro _ _; rfl))
  | ((with_reducible show EJ _ (Expr.Call (Expr.Name _ _) (_ :: _) [] _) _ _ _ _); first | ((with_reducible refine' ej_cB ?h0 ?h1 ?h2 ?_ ?h3 ?h4); (case h0 => with_reducible assumption); (case h1 => with_reducible assumption); (case h2 => kernel_rfl); (case h3 => rfl); (case h4 => rfl)) | ((with_reducible refine' ej_cT ?h0 ?h1 ?h2 ?_ ?h3 ?h4); (case h0 => with_reducible assumption); (case h1 => with_reducible assumption); (case h2 => kernel_rfl); (case h3 => rfl); (case h4 => rfl)) | ((with_reducible refine' ej_fn ?h0 ?h1 ?h2 ?h3 ?h4 ?_ ?h5 ?h6); (case h0 => with_reducible assumption); (case h1 => with_reducible assumption); (case h2 => kernel_rfl); (case h3 => kernel_rfl); (case h4 => kernel_rfl); (case h5 => rfl); (case h6 => rfl)) | ((with_reducible refine' ej_mk ?h0 ?h1 ?h2 ?h3 ?h4 ?_ ?h5 ?h6); (case h0 => with_reducible assumption); (case h1 => with_reducible assumption); (case h2 => kernel_rfl); (case h3 => kernel_rfl); (case h4 => kernel_rfl); (case h5 => rfl); (case h6 => rfl))))
local macro_rules | `(tactic| wtm_at "sl f") => `(tactic| first
  | ((with_reducible show EJ _ (Expr.Attribute _ _ _) _ _ _ _); (with_reducible refine' ej_fl ?h0 ?h1 ?h2 ?_ ?h3); (case h0 => with_reducible assumption); (case h1 => with_reducible assumption); (case h2 => with_reducible assumption); (case h3 => rfl))
  | ((with_reducible show SJ _ (Stmt.Assign [Expr.Attribute _ _ _] _ _ :: _) _ _ _); (with_reducible refine' sj_cons (s1_fl ?h0 ?h1 ?h2 ?_ ?h3)); (case h0 => with_reducible assumption); (case h1 => with_reducible assumption); (case h2 => with_reducible assumption); (case h3 => rfl))
  | ((with_reducible show EJ _ (Expr.Call (Expr.Attribute _ _ _) (_ :: _) [] _) _ _ _ _); (with_reducible refine' ej_mt ?h0 ?h1 ?h2 ?_ ?h3 ?h4 ?h5); (case h0 => with_reducible assumption); (case h1 => with_reducible assumption); (case h2 => kernel_rfl); (case h3 => rfl); (case h4 => rfl); (case h5 => rfl))
  | ((with_reducible show EJ _ (Expr.Call (Expr.Attribute _ _ _) [] [] _) _ _ _ _); (with_reducible refine' ej_mt0 ?h0 ?h1 ?h2 ?_ ?h3); (case h0 => with_reducible assumption); (case h1 => with_reducible assumption); (case h2 => kernel_rfl); (case h3 => rfl)))
local macro_rules | `(tactic| wtm_at "sl h") => `(tactic| first
  | ((with_reducible show ∃ d, FldD (D.ins _ _) _ _ d _ ∧ _); refine ⟨_, ⟨_, rfl, .inl rfl⟩, ?_⟩)
  | ((with_reducible show InsAt (D.ins _ _) _ _ _ ∧ _); refine ⟨⟨_, rfl, .inl rfl⟩, ?_⟩))
local macro_rules | `(tactic| wtm_at "sl b") => `(tactic| first
  | ((with_reducible show EJ _ (Expr.Call (Expr.Attribute _ (Str.ofString "append") _) (_ :: _) [] _) _ _ _ _); (with_reducible refine' ej_bm PySem.F.plainAttrs_list PySem.F.slot_list_append PySem.F.type_list_append ?_ ?h1 ?h2 ?h3 ?h4 ?h5); (case h1 => rfl); (case h2 => rfl); (case h3 => rfl); (case h4 => rfl); (case h5 => rfl))
  | ((with_reducible show EJ _ (Expr.Call (Expr.Attribute _ (Str.ofString "extend") _) (_ :: _) [] _) _ _ _ _); (with_reducible refine' ej_bm PySem.F.plainAttrs_list PySem.F.slot_list_extend PySem.F.type_list_extend ?_ ?h1 ?h2 ?h3 ?h4 ?h5); (case h1 => rfl); (case h2 => rfl); (case h3 => rfl); (case h4 => rfl); (case h5 => rfl))
  | ((with_reducible show EJ _ (Expr.Call (Expr.Attribute _ (Str.ofString "pop") _) (_ :: _) [] _) _ _ _ _); (with_reducible refine' ej_bm PySem.F.plainAttrs_list PySem.F.slot_list_pop PySem.F.type_list_pop ?_ ?h1 ?h2 ?h3 ?h4 ?h5); (case h1 => rfl); (case h2 => rfl); (case h3 => rfl); (case h4 => rfl); (case h5 => rfl))
  | ((with_reducible show EJ _ (Expr.Call (Expr.Attribute _ (Str.ofString "pop") _) [] [] _) _ _ _ _); (with_reducible refine' ej_bm0 PySem.F.plainAttrs_list PySem.F.slot_list_pop PySem.F.type_list_pop ?_ ?h1 ?h2); (case h1 => rfl); (case h2 => rfl))
  | ((with_reducible show EJ _ (Expr.Call (Expr.Attribute _ (Str.ofString "reverse") _) [] [] _) _ _ _ _); (with_reducible refine' ej_bm0 PySem.F.plainAttrs_list PySem.F.slot_list_reverse PySem.F.type_list_reverse ?_ ?h1 ?h2); (case h1 => rfl); (case h2 => rfl))
  | ((with_reducible show EJ _ (Expr.Call (Expr.Attribute _ (Str.ofString "clear") _) [] [] _) _ _ _ _); (with_reducible refine' ej_bm0 PySem.F.plainAttrs_list PySem.F.slot_list_clear PySem.F.type_list_clear ?_ ?h1 ?h2); (case h1 => rfl); (case h2 => rfl))
  | ((with_reducible show EJ _ (Expr.Call (Expr.Attribute _ (Str.ofString "index") _) (_ :: _) [] _) _ _ _ _); (with_reducible refine' ej_bm PySem.F.plainAttrs_list PySem.F.slot_list_index PySem.F.type_list_index ?_ ?h1 ?h2 ?h3 ?h4 ?h5); (case h1 => rfl); (case h2 => rfl); (case h3 => rfl); (case h4 => rfl); (case h5 => rfl))
  | ((with_reducible show HasTy _ _ (D.raw _) _ ∧ _); first | refine ⟨ty_own 0 rfl, ?_⟩ | refine ⟨ty_own 1 rfl, ?_⟩ | refine ⟨ty_own 2 rfl, ?_⟩)
  | ((with_reducible show HasTy _ _ (D.lst _) _ ∧ _); refine ⟨ty_lst, ?_⟩))
local macro_rules | `(tactic| wtm_at "sl a") => `(tactic| first
  | ((with_reducible show AJ _ [] _ _ _ _); refine aj_nil ?_)
  | ((with_reducible show AJ _ (_ :: _) _ _ _ _); (with_reducible refine' aj_cons ?_ ?h1); (case h1 => rfl)))
local macro_rules | `(tactic| wtm_at "sl t") => `(tactic| first
  | ((with_reducible show TJ _ (Expr.UnaryOp UnaryOp.Not _ _) _ _ _ _); refine tj_not ?_)
  | ((with_reducible show TJ _ (Expr.BoolOp _ _ _) _ _ _ _); refine tjs_of ?_)
  | ((with_reducible show TJ _ (Expr.Compare _ [_] _ _) _ _ _ _); (with_reducible refine' tj_cmp ?_ ?h1); (case h1 => first | exact nomark _ | rfl))
  | ((with_reducible show TJ _ (Expr.Compare _ [_, _] _ _) _ _ _ _); (with_reducible refine' tj_chain ?_ ?h1); (case h1 => rfl))
  | ((with_reducible show TJ _ (_) _ _ _ _); (with_reducible refine' tj_b ?_ ?h1); (case h1 => intro _; rfl))
  | ((with_reducible show TJs _ BoolOp.And (_ :: _ :: _) _ _ _ _ _); refine tjs_and ?_)
  | ((with_reducible show TJs _ BoolOp.Or (_ :: _ :: _) _ _ _ _ _); refine tjs_or ?_)
  | ((with_reducible show TJs _ _ [_] _ _ _ _ _); refine tjs_one ?_))
local macro_rules | `(tactic| wtm_at "sl s") => `(tactic| first
  | ((with_reducible show SJ _ [] _ _ _); refine sj_nil ?_)
  | ((with_reducible show SJ _ (Stmt.Return (some _) _ :: _) _ _ _); refine sj_cons (s1_ret ?_))
  | ((with_reducible show SJ _ (Stmt.Return none _ :: _) _ _ _); refine sj_cons (s1_retN ?_))
  | ((with_reducible show SJ _ (Stmt.If _ _ _ _ :: _) _ _ _); refine sj_cons (s1_if ?_))
  | ((with_reducible show SJ _ (Stmt.Pass _ :: _) _ _ _); refine sj_cons (s1_pass ?_))
  | ((with_reducible show SJ _ (Stmt.Break _ :: _) _ _ _); refine sj_cons (s1_break ?_))
  | ((with_reducible show SJ _ (Stmt.Continue _ :: _) _ _ _); refine sj_cons (s1_cont ?_))
  | ((with_reducible show SJ _ (Stmt.Assign [Expr.Subscript _ _ _] _ _ :: _) _ _ _); (with_reducible refine' sj_cons (s1_setI ?_ ?h1 ?h2 ?h3 ?h4)); (case h1 => intro _; rfl); (case h2 => rfl); (case h3 => rfl); (case h4 => rfl))
  | ((with_reducible show SJ _ (Stmt.Expr _ _ :: _) _ _ _); refine sj_cons (s1_expr ?_))
  | ((with_reducible show SJ _ (Stmt.Raise _ _ _ :: _) _ _ _); (with_reducible refine' sj_cons (s1_rs ?h0 ?h1 ?h2 ?h3 ?h4 ?_ ?h5 ?h6)); (case h0 => with_reducible assumption); (case h1 => with_reducible assumption); (case h2 => kernel_rfl); (case h3 => kernel_rfl); (case h4 => kernel_rfl); (case h5 => rfl); (case h6 => rfl))
  | ((with_reducible show SJ _ (Stmt.Assign [Expr.Name _ _] _ _ :: _) _ _ _); (with_reducible refine' sj_cons (s1_nm ?h0 ?h1 ?h2 ?h3 ?h4 ?_ ?h5)); (case h0 => with_reducible assumption); (case h1 => with_reducible assumption); (case h2 => kernel_rfl); (case h3 => kernel_rfl); (case h4 => kernel_rfl); (case h5 => rfl))
  | ((with_reducible show SJ _ (Stmt.AugAssign (Expr.Name _ _) _ _ _ :: _) _ _ _); (with_reducible refine' sj_cons (s1_ag ?h0 ?h1 ?h2 ?h3 ?h4 ?h5 ?_)); (case h0 => with_reducible assumption); (case h1 => with_reducible assumption); (case h2 => kernel_rfl); (case h3 => kernel_rfl); (case h4 => kernel_rfl); (case h5 => rfl))
  | ((with_reducible show SJ _ (Stmt.Assign [Expr.Tuple _ _ _] (Expr.Call _ _ _ _) _ :: _) _ _ _); (with_reducible refine' sj_cons (s1_asg ?_ ?h1 ?h2 ?h3)); (case h1 => rfl); (case h2 => rfl); (case h3 => rfl))
  | ((with_reducible show SJ _ (Stmt.Assign [Expr.Tuple [Expr.Name _ _, Expr.Name _ _] _ _] (Expr.Tuple [_, _] _ _) _ :: _) _ _ _); (with_reducible refine' sj_cons (s1_pr ?h0 ?h1 ?h2 ?h3 ?h4 ?h5 ?h6 ?h7 ?_ ?h8 ?h9)); (case h0 => with_reducible assumption); (case h1 => with_reducible assumption); (case h2 => with_reducible assumption); (case h3 => kernel_rfl); (case h4 => kernel_rfl); (case h5 => decide); (case h6 => kernel_rfl); (case h7 => kernel_rfl); (case h8 => rfl); (case h9 => rfl)))
local macro_rules | `(tactic| wtm_at "sl g") => `(tactic| first
  | ((with_reducible show GJ _ (Expr.Name _ _) _ _ _ _ _); (with_reducible refine' gj_nm ?h0 ?h1 ?h2 ?h3 ?h4 ?_); (case h0 => with_reducible assumption); (case h1 => with_reducible assumption); (case h2 => kernel_rfl); (case h3 => kernel_rfl); (case h4 => kernel_rfl))
  | ((with_reducible show GJ _ (Expr.Tuple [Expr.Name _ _, Expr.Name _ _] _ _) _ _ _ _ _); (with_reducible refine' gj_tp2 ?h0 ?h1 ?h2 ?h3 ?h4 ?h5 ?h6 ?h7 ?h8 ?_); (case h0 => with_reducible assumption); (case h1 => with_reducible assumption); (case h2 => with_reducible assumption); (case h3 => kernel_rfl); (case h4 => kernel_rfl); (case h5 => kernel_rfl); (case h6 => kernel_rfl); (case h7 => kernel_rfl); (case h8 => kernel_rfl))
  | ((with_reducible show GJ _ (Expr.Tuple [Expr.Name _ _, Expr.Name _ _, Expr.Name _ _] _ _) _ _ _ _ _); (with_reducible refine' gj_tp3 ?h0 ?h1 ?h2 ?h3 ?h4 ?h5 ?h6 ?h7 ?h8 ?h9 ?i0 ?i1 ?i2 ?_); (case h0 => with_reducible assumption); (case h1 => with_reducible assumption); (case h2 => with_reducible assumption); (case h3 => with_reducible assumption); (case h4 => kernel_rfl); (case h5 => kernel_rfl); (case h6 => kernel_rfl); (case h7 => kernel_rfl); (case h8 => kernel_rfl); (case h9 => kernel_rfl); (case i0 => kernel_rfl); (case i1 => kernel_rfl); (case i2 => kernel_rfl))
  | ((with_reducible show GJ _ (Expr.Tuple _ _ _) _ _ _ _ _); (with_reducible refine' gj_tp ?h0 ?_ ?h1 ?h2 ?h3); (case h0 => with_reducible assumption); (case h1 => rfl); (case h2 => rfl); (case h3 => rfl))
  | ((with_reducible show GsJ _ (_ :: _) _ _ _ _ _); (with_reducible refine' gsj_cons ?_ ?h1); (case h1 => rfl))
  | ((with_reducible show GsJ _ [] _ _ _ _ _); refine gsj_nil ?_))
local macro_rules | `(tactic| wtm_at "sl i") => `(tactic| first
  | ((with_reducible show IJ _ _ (Expr.Name _ _) _ _ _ _); (with_reducible refine' ij_nm ?h0 ?h1 ?h2 ?h3 ?h4 ?h5 ?h6 ?_); (case h0 => with_reducible assumption); (case h1 => with_reducible assumption); (case h2 => kernel_rfl); (case h3 => kernel_rfl); (case h4 => rfl); (case h5 => kernel_rfl); (case h6 => first | assumption | exact .inl rfl | exact .inr (.inl rfl) | exact .inr (.inr rfl)))
  | ((with_reducible show IJ _ _ (Expr.Call (Expr.Name (Str.ofString "enumerate") _) [_] [] _) _ _ _ _); (with_reducible refine' ij_en ?h0 ?h1 ?h2 ?_ ?h3); (case h0 => with_reducible assumption); (case h1 => with_reducible assumption); (case h2 => kernel_rfl); (case h3 => rfl))
  | ((with_reducible show IJ _ _ (Expr.Call (Expr.Name (Str.ofString "range") _) [_] [] _) _ _ _ _); (with_reducible refine' ij_r1 ?h0 ?h1 ?h2 ?_ ?h3); (case h0 => with_reducible assumption); (case h1 => with_reducible assumption); (case h2 => kernel_rfl); (case h3 => rfl))
  | ((with_reducible show IJ _ _ (Expr.Call (Expr.Name (Str.ofString "range") _) [_, _] [] _) _ _ _ _); (with_reducible refine' ij_r2 ?h0 ?h1 ?h2 ?_ ?h3 ?h4); (case h0 => with_reducible assumption); (case h1 => with_reducible assumption); (case h2 => kernel_rfl); (case h3 => rfl); (case h4 => rfl))
  | ((with_reducible show IJ _ _ (Expr.Call (Expr.Name (Str.ofString "zip") _) [_, _] [] _) _ _ _ _); (with_reducible refine' ij_zp ?h0 ?h1 ?h2 ?_ ?h3 ?h4); (case h0 => with_reducible assumption); (case h1 => with_reducible assumption); (case h2 => kernel_rfl); (case h3 => rfl); (case h4 => rfl)))
local macro_rules | `(tactic| wtm_at "sl o") => `(tactic| first
  | ((with_reducible show OpD _ (binaryOp Operator.Add) (D.int _) (D.int _) _ _); refine od_add ?_)
  | ((with_reducible show OpD _ (inplaceOp Operator.Add) (D.int _) (D.int _) _ _); refine oi_add ?_)
  | ((with_reducible show OpD _ (binaryOp Operator.Sub) (D.int _) (D.int _) _ _); refine od_sub ?_)
  | ((with_reducible show OpD _ (inplaceOp Operator.Sub) (D.int _) (D.int _) _ _); refine oi_sub ?_)
  | ((with_reducible show OpD _ (binaryOp Operator.Mult) (D.int _) (D.int _) _ _); refine od_mulC (by first | exact .inl ⟨by omega, by omega⟩ | exact .inr ⟨by omega, by omega⟩) ?_)
  | ((with_reducible show OpD _ (binaryOp Operator.Pow) (D.int 10) (D.int 9) _ _); refine od_p9 ?_)
  | ((with_reducible show OpD _ (binaryOp Operator.Pow) (D.int 10) (D.int 12) _ _); refine od_p12 ?_)
  | ((with_reducible show OpD _ (binaryOp Operator.Pow) (D.int 10) (D.int 18) _ _); refine od_p18 ?_)
  | ((with_reducible show OpD _ (binaryOp Operator.Pow) (D.int 10) (D.int 20) _ _); refine od_p20 ?_)
  | ((with_reducible show OpD _ (compareOp CmpOp.Lt) (D.int _) (D.int _) _ _); refine od_lt ?_)
  | ((with_reducible show OpD _ (compareOp CmpOp.LtE) (D.int _) (D.int _) _ _); refine od_le ?_)
  | ((with_reducible show OpD _ (compareOp CmpOp.Gt) (D.int _) (D.int _) _ _); refine od_gt ?_)
  | ((with_reducible show OpD _ (compareOp CmpOp.GtE) (D.int _) (D.int _) _ _); refine od_ge ?_)
  | ((with_reducible show OpD _ (compareOp CmpOp.Eq) (D.int _) (D.int _) _ _); refine od_eqI ?_)
  | ((with_reducible show OpD _ (compareOp CmpOp.NotEq) (D.int _) (D.int _) _ _); refine od_neI ?_)
  | ((with_reducible show OpD _ (compareOp CmpOp.Eq) (D.str _) (D.str _) _ _); refine od_eqS ?_)
  | ((with_reducible show UnD _ _ (D.int _) _ _); refine ud_neg ?_)
  | ((with_reducible show ClD _ (Value.builtin "len") [D.lst _] _ _); refine cd_len_lst ?_)
  | ((with_reducible show ClD _ (Value.builtin "len") [D.tup _] _ _); refine cd_len_tup ?_)
  | ((with_reducible show ClD _ (Value.builtin "len") [D.fz _] _ _); refine cd_len_fz ?_)
  | ((with_reducible show ClD _ (Value.type "int") [D.int _] _ _); refine cd_intI ?_)
  | ((with_reducible show ClD _ (Value.type "int") [D.bl _] _ _); refine cd_intB ?_)
  | ((with_reducible show ClD _ (Value.builtin "isinstance") [_, D.ty _] _ _); (with_reducible refine' cd_isi ?h1 ?h2 ?_); (case h1 => first | assumption | rfl); (case h2 => decide))
  | ((with_reducible show ClD _ (Value.builtin "isinstance") [_, D.tup [D.ty _, D.ty _]] _ _); (with_reducible refine' cd_isi2 ?h1 ?h2 ?h3 ?_); (case h1 => first | assumption | rfl); (case h2 => decide); (case h3 => decide)))
local macro_rules | `(tactic| wtm_at "sl v") => `(tactic| first
  | ((with_reducible show OpD _ (binaryOp Operator.Mod) (D.int _) (D.int _) _ _); refine od_modV (by omega) fun r h0 h1 => ?_)
  | ((with_reducible show OpD _ (binaryOp Operator.FloorDiv) (D.int _) (D.int _) _ _); refine od_div (divOk_le (by omega) (by omega)) ?_))
local macro_rules | `(tactic| wtm_at "sl m") => `(tactic| first
  | ((with_reducible show IxD _ (D.raw _) (D.int _) _ _); first | refine id_own 0 rfl rfl ?_ | refine id_own 1 rfl rfl ?_ | refine id_own 2 rfl rfl ?_)
  | ((with_reducible show if true = true then _ else _); refine ite_t ?_)
  | ((with_reducible show if (!false) = true then _ else _); refine ite_nf ?_)
  | ((with_reducible show if (!true) = true then _ else _); refine ite_nt ?_)
  | ((with_reducible show if false = true then _ else _); refine ite_f ?_)
  | ((with_reducible show ∃ k, D.bl _ = D.bl k ∧ _); refine ⟨_, rfl, ?_⟩)
  | ((with_reducible show ∃ i, D.int _ = D.int i ∧ _); refine ⟨_, rfl, ?_⟩)
  | ((with_reducible show OJ _ none _ _ _ _); refine oj_none ?_)
  | ((with_reducible show OJ _ (some _) _ _ _ _); refine oj_some ?_)
  | ((with_reducible show SlD _ (D.lst _) _ _ _ _); refine sd_lst ?_)
  | ((with_reducible show SlD _ (D.fz _) _ _ _ _); refine sd_fz ?_)
  | ((with_reducible show SlD _ (D.tup _) _ _ _ _); refine sd_tup ?_)
  | ((with_reducible show List.length _ ≤ 100000 ∧ _); refine ⟨Nat.le_of_ble_eq_true rfl, ?_⟩))
local macro_rules | `(tactic| wtm_at "sl") => `(tactic| repeat (first | wtm_at "sl e" | wtm_at "sl a" | wtm_at "sl b" | wtm_at "sl f" | wtm_at "sl h" | wtm_at "sl o" | wtm_at "sl t" | wtm_at "sl s" | wtm_at "sl m" | wtm_at "sl g" | wtm_at "sl i"))
local macro_rules | `(tactic| wtm_at "slv") => `(tactic| repeat (first | wtm_at "sl e" | wtm_at "sl a" | wtm_at "sl b" | wtm_at "sl f" | wtm_at "sl h" | wtm_at "sl v" | wtm_at "sl o" | wtm_at "sl t" | wtm_at "sl s" | wtm_at "sl m" | wtm_at "sl g" | wtm_at "sl i"))
local macro_rules | `(tactic| wtm_at "sl in") => `(tactic| conv => arg 2; whnf)
local macro_rules | `(tactic| wtm_at "sl r0") => `(tactic| refine ⟨[], List.nil_sublist _, rfl, ?_⟩)
section
variable {X : Cx} {st : Sls} {M : Mem} {Q : DK} {E : EK} {P : Program} {w : World} {K : PySem.W.Frag} {mg : Str → Option Value} {base : Heap} {f : Addr} {fd : FuncData} {d e : D} {es : List D} {lo hi : Int} {i : Int}
def cHasList (C : Addr) : Ct := Pc fun ds Q _ => ∃ s, ds = [.ins C [("strategy", s)]] ∧ s.kd 0 ∧ Q (.bl (isLst s))
theorem use_hasList {C : Addr} {s : D} (hk : s.kd 0) (q : Q (.bl (isLst s)) M) : CtJ (cHasList C) 1 [.ins C [("strategy", s)]] st M Q E := ctj_p ⟨s, rfl, hk, q⟩
theorem f_Chooser_has_list (F : FunD K "has_list" "Chooser.has_list" (defArgs s_Chooser_has_list) (defBody s_Chooser_has_list) (defScope s_Chooser_has_list) [] [] f fd) (B : Bs mg) {C : Addr} (k1 : Cls K C) (k2 : NoAttr K C "strategy") : FnOk P w K mg base (L2.CX P w) 1 f fd p_Chooser_has_list (spOf K 1 (cHasList C)) := by
  refine fn_rule F sc_Chooser_has_list fun X hX ds M Q E hl hc => ?_
  have cf := hX.cf sc_Chooser_has_list
  clear hX hl F
  obtain ⟨n0, _⟩ := nms_Chooser_has_list
  obtain ⟨b1, b2, b3, b4, b5, b6, b7, b8, b9, b10, b11, b12, b13, b14, b15, b16, b17, b18, b19⟩ := B
  refine body_p hc fun Q' E' ⟨s, e, hk, hq⟩ => ?_
  clear hc
  subst e
  wtm_at "sl in"
  obtain ⟨m, hm⟩ := hk
  wtm_at "sl"
  rw [isLst_ty hm]
  wtm_at "sl r0"
  exact hq
theorem use_extreme {s c p : D} {Ext : List Int → Nat → Prop} {ns : List Int} {rows : List D} (ks : s.kd 1) (kc : c.kd 1) (kp : p.kd 2) (tp : Tame p) (h : splitErr s c p = none) (hs : s.seq = some (ns.map D.int)) (ok : SchOk ns) (hp : p.seq = some rows) (hr : RowsOk rows)
    (q : ∀ k : Nat, Ext (rows.map fun r => scaledW ns (rowI r)) k → Q (.int k) M) : CtJ (cExtreme K Ext) 3 [s, c, p] st M Q E :=
  ctj_p ⟨s, c, p, rfl, ks, kc, kp, tp, by rw [h]; exact ⟨ns, rows, hs, ok, hp, hr, q⟩⟩
/-- what a chooser answers where the arguments are right -/
def nextAns (K : PySem.W.Frag) (s sc p ix : D) (Q : D → Prop) (E : Er → Prop) : Prop :=
  if atLeast ix 0 = true then ∀ k, ix = .int k → match s with
    | .lst es => if k ≥ es.length then E ((Err.number "index").er K) else ∀ z, es[k.toNat]? = some (.int z) → ∀ g ns, sc.seq = some ((g :: ns).map D.int) → if g ≤ z then E ((Err.group (.int z)).er K) else Q (.int z)
    | .str x => ∃ ns rows, sc.seq = some (ns.map D.int) ∧ SchOk ns ∧ p.seq = some rows ∧ RowsOk rows ∧ ∀ kk : Nat, (if x = lightS then IsMin (rows.map fun r => scaledW ns (rowI r)) kk else IsMax (rows.map fun r => scaledW ns (rowI r)) kk) → Q (.int kk)
    | _ => False
  else E ((Err.number "index").er K)
def StratOk (s : D) : Prop := (∃ zs : List Int, s = .lst (zs.map .int)) ∨ ∃ x, s = .str x
theorem StratOk.kd0 {s : D} (h : StratOk s) : s.kd 0 := by
  rcases h with ⟨zs, rfl⟩ | ⟨x, rfl⟩ <;> exact ⟨_, rfl⟩
def cNext (K : PySem.W.Frag) (C : Addr) : Ct := Pc fun ds Q E => ∃ s sc c p ix, ds = [.ins C [("strategy", s)], sc, c, p, ix] ∧ StratOk s ∧ sc.kd 1 ∧ c.kd 1 ∧ p.kd 2 ∧ Tame p ∧ ix.kd 0 ∧ match splitErr sc c p with
  | some e => E (e.er K)
  | none => nextAns K s sc p ix Q E
theorem f_Chooser_next_choice (F : FunD K "next_choice" "Chooser.next_choice" (defArgs s_Chooser_next_choice) (defBody s_Chooser_next_choice) (defScope s_Chooser_next_choice) [] [] f fd) (B : Bs mg) {C : Addr} (h1 : FnI P w K mg base 5 "require_split" p_require_split (cReqSplit K)) (h2 : FnI P w K mg base 2 "is_at_least" p_is_at_least cAtLeast) (m1 : MtI P w K mg base 1 C "has_list" p_Chooser_has_list (cHasList C)) (h3 : FnI P w K mg base 6 "lightest_group" p_lightest_group (cExtreme K IsMin)) (h4 : FnI P w K mg base 6 "heaviest_group" p_heaviest_group (cExtreme K IsMax)) (c1 : Cn mg "LIGHTEST" (.str lightS)) (x1 : ExcI P w K mg base "InvalidNumber" "name" (He.ga K "InvalidNumber")) (x2 : ExcI P w K mg base "InvalidGroup" "group" (He.ga K "InvalidGroup")) (k1 : Cls K C) (k2 : NoAttr K C "strategy") : FnOk P w K mg base (L2.CX P w) 7 f fd p_Chooser_next_choice (spOf K 5 (cNext K C)) := by
  refine fn_rule F sc_Chooser_next_choice fun X hX ds M Q E hl hc => ?_
  have cf := hX.cf sc_Chooser_next_choice
  clear hX hl F
  obtain ⟨n0, n1, n2, n3, n4, _⟩ := nms_Chooser_next_choice
  obtain ⟨b1, b2, b3, b4, b5, b6, b7, b8, b9, b10, b11, b12, b13, b14, b15, b16, b17, b18, b19⟩ := B
  refine body_p hc fun Q' E' ⟨s, sc, c, p, ix, e, so, ks, kc, kp, tp, ki, hq⟩ => ?_
  clear hc
  subst e
  wtm_at "sl in"
  have k0 := so.kd0
  wtm_at "sl"
  refine use_reqSplit ks kc kp tp (fun h => ?_) (fun er h => ?_)
  rotate_left
  · rw [h] at hq
    wtm_at "sl r0"
    exact hq
  rw [h] at hq
  simp only at hq
  unfold nextAns at hq
  wtm_at "sl"
  refine use_atLeast ki ?_
  wtm_at "sl"
  refine ite_b (fun h5 => ?_) (fun h5 => ?_)
  · wtm_at "sl"
    wtm_at "sl r0"
    rw [if_neg (by simpa using h5)] at hq
    exact hq
  · have h6 : atLeast ix 0 = true := by simpa using h5
    rw [if_pos h6] at hq
    obtain ⟨k, rfl, hk0, _⟩ : ∃ k, ix = .int k ∧ 0 ≤ k ∧ True := by
      cases ix <;> first | (simp only [atLeast, decide_eq_true_eq] at h6; exact ⟨_, rfl, h6, trivial⟩) | cases h6
    have hq := hq k rfl
    wtm_at "sl"
    refine use_hasList k0 ?_
    rcases so with ⟨zs, rfl⟩ | ⟨x, rfl⟩
    · refine ⟨true, rfl, ?_⟩
      simp only [List.length_map] at hq
      wtm_at "sl"
      rw [List.length_map]
      refine ite_dec (fun h7 => ?_) (fun h7 => ?_)
      · wtm_at "sl"
        wtm_at "sl r0"
        rw [if_pos h7] at hq
        exact hq
      · rw [if_neg h7] at hq
        have hkl : k.toNat < zs.length := by omega
        have hz : (zs.map D.int)[k.toNat]? = some (.int zs[k.toNat]) := by rw [List.getElem?_map, List.getElem?_eq_getElem hkl]; rfl
        obtain ⟨g, ns, cs, rows, hs, hl, hge, hg, rfl, hcl, hcge, hp, ht, hlen, hrow, hsum⟩ := splitErr_ex h
        have hq := hq _ hz g ns hs
        have hat : atI (zs.map D.int) k = some (.int zs[k.toNat]) := by
          have := atI_nat hz
          rwa [show ((k.toNat : Nat) : Int) = k by omega] at this
        wtm_at "sl"
        refine use_hasList k0 ?_
        refine ⟨true, rfl, ?_⟩
        wtm_at "sl"
        refine id_lst hat ?_
        wtm_at "sl"
        refine id_seq hs atI_zero ?_
        wtm_at "sl"
        refine ite_dec (fun h8 => ?_) (fun h8 => ?_)
        · rw [if_pos h8] at hq
          wtm_at "sl"
          refine id_lst hat ?_
          wtm_at "sl r0"
          exact hq
        · rw [if_neg h8] at hq
          wtm_at "sl"
          refine id_lst hat ?_
          wtm_at "sl r0"
          exact hq
    · refine ⟨false, rfl, ?_⟩
      obtain ⟨ns, rows, hs, ok, hp, hr, hq⟩ := hq
      wtm_at "sl"
      refine use_hasList k0 ?_
      refine ⟨false, rfl, ?_⟩
      wtm_at "sl"
      refine ite_dec (fun h8 => ?_) (fun h8 => ?_)
      · simp only [if_pos h8] at hq
        wtm_at "sl"
        refine use_extreme ks kc kp tp h hs ok hp hr fun kk hkk => ?_
        wtm_at "sl r0"
        exact hq kk hkk
      · simp only [if_neg h8] at hq
        wtm_at "sl"
        refine use_extreme ks kc kp tp h hs ok hp hr fun kk hkk => ?_
        wtm_at "sl r0"
        exact hq kk hkk

end
end SL

set_option maxHeartbeats 2000000
namespace SL
open PySem PySem.Spec PyProof.Rows L2 Evl
local macro_rules | `(tactic| wtm_at "sl e") => `(tactic| first
  | ((with_reducible show EJ _ (Expr.Name _ _) _ _ _ _); first | ((with_reducible refine' ej_nm ?h0 ?h1 ?h2 ?h3 ?h4 ?h5 ?_); (case h0 => with_reducible assumption); (case h1 => with_reducible assumption); (case h2 => kernel_rfl); (case h3 => kernel_rfl); (case h4 => rfl); (case h5 => kernel_rfl)) | ((with_reducible refine' ej_cn ?h0 ?h1 ?h2 ?_); (case h0 => with_reducible assumption); (case h1 => with_reducible assumption); (case h2 => kernel_rfl)) | ((with_reducible refine' ej_ty ?h0 ?h1 ?h2 ?_); (case h0 => with_reducible assumption); (case h1 => with_reducible assumption); (case h2 => kernel_rfl)))
  | ((with_reducible show EJ _ (Expr.Constant (Const.int _) _ _) _ _ _ _); refine ej_int ?_)
  | ((with_reducible show EJ _ (Expr.Constant (Const.str _) _ _) _ _ _ _); refine ej_str ?_)
  | ((with_reducible show EJ _ (Expr.Constant (Const.bool _) _ _) _ _ _ _); refine ej_bl ?_)
  | ((with_reducible show EJ _ (Expr.Constant Const.none _ _) _ _ _ _); refine ej_non ?_)
  | ((with_reducible show EJ _ (Expr.BinOp _ _ _ _) _ _ _ _); refine ej_op ?_)
  | ((with_reducible show EJ _ (Expr.UnaryOp UnaryOp.Not _ _) _ _ _ _); refine ej_not ?_)
  | ((with_reducible show EJ _ (Expr.UnaryOp _ _ _) _ _ _ _); refine ej_un ?_)
  | ((with_reducible show EJ _ (Expr.Tuple _ _ _) _ _ _ _); refine ej_tup ?_)
  | ((with_reducible show EJ _ (Expr.BoolOp _ [_] _) _ _ _ _); refine ej_one ?_)
  | ((with_reducible show EJ _ (Expr.BoolOp BoolOp.And _ _) _ _ _ _); refine ej_and ?_)
  | ((with_reducible show EJ _ (Expr.BoolOp BoolOp.Or _ _) _ _ _ _); refine ej_or ?_)
  | ((with_reducible show EJ _ (Expr.IfExp _ _ _ _) _ _ _ _); refine ej_if ?_)
  | ((with_reducible show EJ _ (Expr.Compare _ [_] _ _) _ _ _ _); (with_reducible refine' ej_cmp ?_ ?h1); (case h1 => first | exact nomark _ | rfl))
  | ((with_reducible show EJ _ (Expr.Compare _ [_, _] _ _) _ _ _ _); (with_reducible refine' ej_chain ?_ ?h1); (case h1 => rfl))
  | ((with_reducible show EJ _ (Expr.Subscript _ (Expr.Slice _ _ _ _) _) _ _ _ _); refine ej_slice ?_)
  | ((with_reducible show EJ _ (Expr.Subscript _ _ _) _ _ _ _); (with_reducible refine' ej_ix ?_ ?h1); (case h1 => intro _ _; rfl))
  | ((with_reducible show EJ _ (Expr.Call (Expr.Name (Str.ofString "list") _) [Expr.Call (Expr.Name (Str.ofString "range") _) [_] [] _] [] _) _ _ _ _); (with_reducible refine' ej_listRg ?h0 ?h1 ?h2 ?h3 ?h4 ?_ ?h5 ?h6); (case h0 => with_reducible assumption); (case h1 => with_reducible assumption); (case h2 => with_reducible assumption); (case h3 => kernel_rfl); (case h4 => kernel_rfl); (case h5 => rfl); (case h6 => rfl))
  | ((with_reducible show EJ _ (Expr.Call (Expr.Name _ _) (_ :: _) [] _) _ _ _ _); first | ((with_reducible refine' ej_cB ?h0 ?h1 ?h2 ?_ ?h3 ?h4); (case h0 => with_reducible assumption); (case h1 => with_reducible assumption); (case h2 => kernel_rfl); (case h3 => rfl); (case h4 => rfl)) | ((with_reducible refine' ej_cT ?h0 ?h1 ?h2 ?_ ?h3 ?h4); (case h0 => with_reducible assumption); (case h1 => with_reducible assumption); (case h2 => kernel_rfl); (case h3 => rfl); (case h4 => rfl)) | ((with_reducible refine' ej_fn ?h0 ?h1 ?h2 ?h3 ?h4 ?_ ?h5 ?h6); (case h0 => with_reducible assumption); (case h1 => with_reducible assumption); (case h2 => kernel_rfl); (case h3 => kernel_rfl); (case h4 => kernel_rfl); (case h5 => rfl); (case h6 => rfl)) | ((with_reducible refine' ej_mk ?h0 ?h1 ?h2 ?h3 ?h4 ?_ ?h5 ?h6); (case h0 => with_reducible assumption); (case h1 => with_reducible assumption); (case h2 => kernel_rfl); (case h3 => kernel_rfl); (case h4 => kernel_rfl); (case h5 => rfl); (case h6 => rfl))))
local macro_rules | `(tactic| wtm_at "sl f") => `(tactic| first
  | ((with_reducible show EJ _ (Expr.Attribute _ _ _) _ _ _ _); (with_reducible refine' ej_fl ?h0 ?h1 ?h2 ?_ ?h3); (case h0 => with_reducible assumption); (case h1 => with_reducible assumption); (case h2 => with_reducible assumption); (case h3 => rfl))
  | ((with_reducible show SJ _ (Stmt.Assign [Expr.Attribute _ _ _] _ _ :: _) _ _ _); (with_reducible refine' sj_cons (s1_fl ?h0 ?h1 ?h2 ?_ ?h3)); (case h0 => with_reducible assumption); (case h1 => with_reducible assumption); (case h2 => with_reducible assumption); (case h3 => rfl))
  | ((with_reducible show EJ _ (Expr.Call (Expr.Attribute _ _ _) (_ :: _) [] _) _ _ _ _); (with_reducible refine' ej_mt ?h0 ?h1 ?h2 ?_ ?h3 ?h4 ?h5); (case h0 => with_reducible assumption); (case h1 => with_reducible assumption); (case h2 => kernel_rfl); (case h3 => rfl); (case h4 => rfl); (case h5 => rfl))
  | ((with_reducible show EJ _ (Expr.Call (Expr.Attribute _ _ _) [] [] _) _ _ _ _); (with_reducible refine' ej_mt0 ?h0 ?h1 ?h2 ?_ ?h3); (case h0 => with_reducible assumption); (case h1 => with_reducible assumption); (case h2 => kernel_rfl); (case h3 => rfl)))
local macro_rules | `(tactic| wtm_at "sl h") => `(tactic| first
  | ((with_reducible show ∃ d, FldD (D.ins _ _) _ _ d _ ∧ _); refine ⟨_, ⟨_, rfl, .inl rfl⟩, ?_⟩)
  | ((with_reducible show InsAt (D.ins _ _) _ _ _ ∧ _); refine ⟨⟨_, rfl, .inl rfl⟩, ?_⟩))
local macro_rules | `(tactic| wtm_at "sl b") => `(tactic| first
  | ((with_reducible show EJ _ (Expr.Call (Expr.Attribute _ (Str.ofString "append") _) (_ :: _) [] _) _ _ _ _); (with_reducible refine' ej_bm PySem.F.plainAttrs_list PySem.F.slot_list_append PySem.F.type_list_append ?_ ?h1 ?h2 ?h3 ?h4 ?h5); (case h1 => rfl); (case h2 => rfl); (case h3 => rfl); (case h4 => rfl); (case h5 => rfl))
  | ((with_reducible show EJ _ (Expr.Call (Expr.Attribute _ (Str.ofString "extend") _) (_ :: _) [] _) _ _ _ _); (with_reducible refine' ej_bm PySem.F.plainAttrs_list PySem.F.slot_list_extend PySem.F.type_list_extend ?_ ?h1 ?h2 ?h3 ?h4 ?h5); (case h1 => rfl); (case h2 => rfl); (case h3 => rfl); (case h4 => rfl); (case h5 => rfl))
  | ((with_reducible show EJ _ (Expr.Call (Expr.Attribute _ (Str.ofString "pop") _) (_ :: _) [] _) _ _ _ _); (with_reducible refine' ej_bm PySem.F.plainAttrs_list PySem.F.slot_list_pop PySem.F.type_list_pop ?_ ?h1 ?h2 ?h3 ?h4 ?h5); (case h1 => rfl); (case h2 => rfl); (case h3 => rfl); (case h4 => rfl); (case h5 => rfl))
  | ((with_reducible show EJ _ (Expr.Call (Expr.Attribute _ (Str.ofString "pop") _) [] [] _) _ _ _ _); (with_reducible refine' ej_bm0 PySem.F.plainAttrs_list PySem.F.slot_list_pop PySem.F.type_list_pop ?_ ?h1 ?h2); (case h1 => rfl); (case h2 => rfl))
  | ((with_reducible show EJ _ (Expr.Call (Expr.Attribute _ (Str.ofString "reverse") _) [] [] _) _ _ _ _); (with_reducible refine' ej_bm0 PySem.F.plainAttrs_list PySem.F.slot_list_reverse PySem.F.type_list_reverse ?_ ?h1 ?h2); (case h1 => rfl); (case h2 => rfl))
  | ((with_reducible show EJ _ (Expr.Call (Expr.Attribute _ (Str.ofString "clear") _) [] [] _) _ _ _ _); (with_reducible refine' ej_bm0 PySem.F.plainAttrs_list PySem.F.slot_list_clear PySem.F.type_list_clear ?_ ?h1 ?h2); (case h1 => rfl); (case h2 => rfl))
  | ((with_reducible show EJ _ (Expr.Call (Expr.Attribute _ (Str.ofString "index") _) (_ :: _) [] _) _ _ _ _); (with_reducible refine' ej_bm PySem.F.plainAttrs_list PySem.F.slot_list_index PySem.F.type_list_index ?_ ?h1 ?h2 ?h3 ?h4 ?h5); (case h1 => rfl); (case h2 => rfl); (case h3 => rfl); (case h4 => rfl); (case h5 => rfl))
  | ((with_reducible show HasTy _ _ (D.raw _) _ ∧ _); first | refine ⟨ty_own 0 rfl, ?_⟩ | refine ⟨ty_own 1 rfl, ?_⟩ | refine ⟨ty_own 2 rfl, ?_⟩)
  | ((with_reducible show HasTy _ _ (D.lst _) _ ∧ _); refine ⟨ty_lst, ?_⟩))
local macro_rules | `(tactic| wtm_at "sl a") => `(tactic| first
  | ((with_reducible show AJ _ [] _ _ _ _); refine aj_nil ?_)
  | ((with_reducible show AJ _ (_ :: _) _ _ _ _); (with_reducible refine' aj_cons ?_ ?h1); (case h1 => rfl)))
local macro_rules | `(tactic| wtm_at "sl t") => `(tactic| first
  | ((with_reducible show TJ _ (Expr.UnaryOp UnaryOp.Not _ _) _ _ _ _); refine tj_not ?_)
  | ((with_reducible show TJ _ (Expr.BoolOp _ _ _) _ _ _ _); refine tjs_of ?_)
  | ((with_reducible show TJ _ (Expr.Compare _ [_] _ _) _ _ _ _); (with_reducible refine' tj_cmp ?_ ?h1); (case h1 => first | exact nomark _ | rfl))
  | ((with_reducible show TJ _ (Expr.Compare _ [_, _] _ _) _ _ _ _); (with_reducible refine' tj_chain ?_ ?h1); (case h1 => rfl))
  | ((with_reducible show TJ _ (_) _ _ _ _); (with_reducible refine' tj_b ?_ ?h1); (case h1 => intro _; rfl))
  | ((with_reducible show TJs _ BoolOp.And (_ :: _ :: _) _ _ _ _ _); refine tjs_and ?_)
  | ((with_reducible show TJs _ BoolOp.Or (_ :: _ :: _) _ _ _ _ _); refine tjs_or ?_)
  | ((with_reducible show TJs _ _ [_] _ _ _ _ _); refine tjs_one ?_))
local macro_rules | `(tactic| wtm_at "sl s") => `(tactic| first
  | ((with_reducible show SJ _ [] _ _ _); refine sj_nil ?_)
  | ((with_reducible show SJ _ (Stmt.Return (some _) _ :: _) _ _ _); refine sj_cons (s1_ret ?_))
  | ((with_reducible show SJ _ (Stmt.Return none _ :: _) _ _ _); refine sj_cons (s1_retN ?_))
  | ((with_reducible show SJ _ (Stmt.If _ _ _ _ :: _) _ _ _); refine sj_cons (s1_if ?_))
  | ((with_reducible show SJ _ (Stmt.Pass _ :: _) _ _ _); refine sj_cons (s1_pass ?_))
  | ((with_reducible show SJ _ (Stmt.Break _ :: _) _ _ _); refine sj_cons (s1_break ?_))
  | ((with_reducible show SJ _ (Stmt.Continue _ :: _) _ _ _); refine sj_cons (s1_cont ?_))
  | ((with_reducible show SJ _ (Stmt.Assign [Expr.Subscript _ _ _] _ _ :: _) _ _ _); (with_reducible refine' sj_cons (s1_setI ?_ ?h1 ?h2 ?h3 ?h4)); (case h1 => intro _; rfl); (case h2 => rfl); (case h3 => rfl); (case h4 => rfl))
  | ((with_reducible show SJ _ (Stmt.Expr _ _ :: _) _ _ _); refine sj_cons (s1_expr ?_))
  | ((with_reducible show SJ _ (Stmt.Raise _ _ _ :: _) _ _ _); (with_reducible refine' sj_cons (s1_rs ?h0 ?h1 ?h2 ?h3 ?h4 ?_ ?h5 ?h6)); (case h0 => with_reducible assumption); (case h1 => with_reducible assumption); (case h2 => kernel_rfl); (case h3 => kernel_rfl); (case h4 => kernel_rfl); (case h5 => rfl); (case h6 => rfl))
  | ((with_reducible show SJ _ (Stmt.Assign [Expr.Name _ _] _ _ :: _) _ _ _); (with_reducible refine' sj_cons (s1_nm ?h0 ?h1 ?h2 ?h3 ?h4 ?_ ?h5)); (case h0 => with_reducible assumption); (case h1 => with_reducible assumption); (case h2 => kernel_rfl); (case h3 => kernel_rfl); (case h4 => kernel_rfl); (case h5 => rfl))
  | ((with_reducible show SJ _ (Stmt.AugAssign (Expr.Name _ _) _ _ _ :: _) _ _ _); (with_reducible refine' sj_cons (s1_ag ?h0 ?h1 ?h2 ?h3 ?h4 ?h5 ?_)); (case h0 => with_reducible assumption); (case h1 => with_reducible assumption); (case h2 => kernel_rfl); (case h3 => kernel_rfl); (case h4 => kernel_rfl); (case h5 => rfl))
  | ((with_reducible show SJ _ (Stmt.Assign [Expr.Tuple _ _ _] (Expr.Call _ _ _ _) _ :: _) _ _ _); (with_reducible refine' sj_cons (s1_asg ?_ ?h1 ?h2 ?h3)); (case h1 => rfl); (case h2 => rfl); (case h3 => rfl))
  | ((with_reducible show SJ _ (Stmt.Assign [Expr.Tuple [Expr.Name _ _, Expr.Name _ _] _ _] (Expr.Tuple [_, _] _ _) _ :: _) _ _ _); first | ((with_reducible refine' sj_cons (s1_prs ?h0 ?h1 ?h2 ?h3 ?h4 ?h5 ?h6 ?h7 ?h8 ?_ ?h9)); (case h0 => with_reducible assumption); (case h1 => with_reducible assumption); (case h2 => with_reducible assumption); (case h3 => kernel_rfl); (case h4 => kernel_rfl); (case h5 => kernel_rfl); (case h6 => kernel_rfl!); (case h7 => kernel_rfl!); (case h8 => kernel_rfl!); (case h9 => rfl)) | ((with_reducible refine' sj_cons (s1_ast ?h0 ?h1 ?_ ?h2 ?h3)); (case h0 => with_reducible assumption); (case h1 => kernel_rfl!); (case h2 => rfl); (case h3 => rfl)))
  | ((with_reducible show SJ _ (Stmt.Assign [Expr.Tuple _ _ _] (Expr.Tuple _ _ _) _ :: _) _ _ _); (with_reducible refine' sj_cons (s1_ast ?h0 ?h1 ?_ ?h2 ?h3)); (case h0 => with_reducible assumption); (case h1 => kernel_rfl!); (case h2 => rfl); (case h3 => rfl)))
local macro_rules | `(tactic| wtm_at "sl g") => `(tactic| first
  | ((with_reducible show GJ _ (Expr.Name _ _) _ _ _ _ _); (with_reducible refine' gj_nm ?h0 ?h1 ?h2 ?h3 ?h4 ?_); (case h0 => with_reducible assumption); (case h1 => with_reducible assumption); (case h2 => kernel_rfl); (case h3 => kernel_rfl); (case h4 => kernel_rfl))
  | ((with_reducible show GJ _ (Expr.Tuple [Expr.Name _ _, Expr.Name _ _] _ _) _ _ _ _ _); (with_reducible refine' gj_tp2 ?h0 ?h1 ?h2 ?h3 ?h4 ?h5 ?h6 ?h7 ?h8 ?_); (case h0 => with_reducible assumption); (case h1 => with_reducible assumption); (case h2 => with_reducible assumption); (case h3 => kernel_rfl); (case h4 => kernel_rfl); (case h5 => kernel_rfl); (case h6 => kernel_rfl); (case h7 => kernel_rfl); (case h8 => kernel_rfl))
  | ((with_reducible show GJ _ (Expr.Tuple [Expr.Name _ _, Expr.Name _ _, Expr.Name _ _] _ _) _ _ _ _ _); (with_reducible refine' gj_tp3 ?h0 ?h1 ?h2 ?h3 ?h4 ?h5 ?h6 ?h7 ?h8 ?h9 ?i0 ?i1 ?i2 ?_); (case h0 => with_reducible assumption); (case h1 => with_reducible assumption); (case h2 => with_reducible assumption); (case h3 => with_reducible assumption); (case h4 => kernel_rfl); (case h5 => kernel_rfl); (case h6 => kernel_rfl); (case h7 => kernel_rfl); (case h8 => kernel_rfl); (case h9 => kernel_rfl); (case i0 => kernel_rfl); (case i1 => kernel_rfl); (case i2 => kernel_rfl))
  | ((with_reducible show GJ _ (Expr.Tuple _ _ _) _ _ _ _ _); (with_reducible refine' gj_tp ?h0 ?_ ?h1 ?h2 ?h3); (case h0 => with_reducible assumption); (case h1 => rfl); (case h2 => rfl); (case h3 => rfl))
  | ((with_reducible show GsJ _ (_ :: _) _ _ _ _ _); (with_reducible refine' gsj_cons ?_ ?h1); (case h1 => rfl))
  | ((with_reducible show GsJ _ [] _ _ _ _ _); refine gsj_nil ?_))
local macro_rules | `(tactic| wtm_at "sl i") => `(tactic| first
  | ((with_reducible show IJ _ _ (Expr.Name _ _) _ _ _ _); (with_reducible refine' ij_nm ?h0 ?h1 ?h2 ?h3 ?h4 ?h5 ?h6 ?_); (case h0 => with_reducible assumption); (case h1 => with_reducible assumption); (case h2 => kernel_rfl); (case h3 => kernel_rfl); (case h4 => rfl); (case h5 => kernel_rfl); (case h6 => first | assumption | exact .inl rfl | exact .inr (.inl rfl) | exact .inr (.inr rfl)))
  | ((with_reducible show IJ _ _ (Expr.Call (Expr.Name (Str.ofString "enumerate") _) [_] [] _) _ _ _ _); (with_reducible refine' ij_en ?h0 ?h1 ?h2 ?_ ?h3); (case h0 => with_reducible assumption); (case h1 => with_reducible assumption); (case h2 => kernel_rfl); (case h3 => rfl))
  | ((with_reducible show IJ _ _ (Expr.Call (Expr.Name (Str.ofString "range") _) [_] [] _) _ _ _ _); (with_reducible refine' ij_r1 ?h0 ?h1 ?h2 ?_ ?h3); (case h0 => with_reducible assumption); (case h1 => with_reducible assumption); (case h2 => kernel_rfl); (case h3 => rfl))
  | ((with_reducible show IJ _ _ (Expr.Call (Expr.Name (Str.ofString "range") _) [_, _] [] _) _ _ _ _); (with_reducible refine' ij_r2 ?h0 ?h1 ?h2 ?_ ?h3 ?h4); (case h0 => with_reducible assumption); (case h1 => with_reducible assumption); (case h2 => kernel_rfl); (case h3 => rfl); (case h4 => rfl))
  | ((with_reducible show IJ _ _ (Expr.Subscript _ _ _) _ _ _ _); refine ij_list ?_)
  | ((with_reducible show IJ _ _ (Expr.BinOp _ _ _ _) _ _ _ _); refine ij_list ?_)
  | ((with_reducible show IJ _ _ (Expr.Call (Expr.Name (Str.ofString "zip") _) [_, _] [] _) _ _ _ _); (with_reducible refine' ij_zp ?h0 ?h1 ?h2 ?_ ?h3 ?h4); (case h0 => with_reducible assumption); (case h1 => with_reducible assumption); (case h2 => kernel_rfl); (case h3 => rfl); (case h4 => rfl)))
local macro_rules | `(tactic| wtm_at "sl o") => `(tactic| first
  | ((with_reducible show OpD _ (binaryOp Operator.Add) (D.int _) (D.int _) _ _); refine od_add ?_)
  | ((with_reducible show OpD _ (inplaceOp Operator.Add) (D.int _) (D.int _) _ _); refine oi_add ?_)
  | ((with_reducible show OpD _ (binaryOp Operator.Sub) (D.int _) (D.int _) _ _); refine od_sub ?_)
  | ((with_reducible show OpD _ (inplaceOp Operator.Sub) (D.int _) (D.int _) _ _); refine oi_sub ?_)
  | ((with_reducible show OpD _ (binaryOp Operator.Mult) (D.int _) (D.int _) _ _); refine od_mulC (by first | exact .inl ⟨by omega, by omega⟩ | exact .inr ⟨by omega, by omega⟩) ?_)
  | ((with_reducible show OpD _ (binaryOp Operator.Pow) (D.int 10) (D.int 9) _ _); refine od_p9 ?_)
  | ((with_reducible show OpD _ (binaryOp Operator.Pow) (D.int 10) (D.int 12) _ _); refine od_p12 ?_)
  | ((with_reducible show OpD _ (binaryOp Operator.Pow) (D.int 10) (D.int 18) _ _); refine od_p18 ?_)
  | ((with_reducible show OpD _ (binaryOp Operator.Pow) (D.int 10) (D.int 20) _ _); refine od_p20 ?_)
  | ((with_reducible show OpD _ (compareOp CmpOp.Lt) (D.int _) (D.int _) _ _); refine od_lt ?_)
  | ((with_reducible show OpD _ (compareOp CmpOp.LtE) (D.int _) (D.int _) _ _); refine od_le ?_)
  | ((with_reducible show OpD _ (compareOp CmpOp.Gt) (D.int _) (D.int _) _ _); refine od_gt ?_)
  | ((with_reducible show OpD _ (compareOp CmpOp.GtE) (D.int _) (D.int _) _ _); refine od_ge ?_)
  | ((with_reducible show OpD _ (compareOp CmpOp.Eq) (D.int _) (D.int _) _ _); refine od_eqI ?_)
  | ((with_reducible show OpD _ (compareOp CmpOp.NotEq) (D.int _) (D.int _) _ _); refine od_neI ?_)
  | ((with_reducible show OpD _ (compareOp CmpOp.Eq) (D.str _) (D.str _) _ _); refine od_eqS ?_)
  | ((with_reducible show UnD _ _ (D.int _) _ _); refine ud_neg ?_)
  | ((with_reducible show ClD _ (Value.builtin "len") [D.lst _] _ _); refine cd_len_lst ?_)
  | ((with_reducible show ClD _ (Value.builtin "len") [D.tup _] _ _); refine cd_len_tup ?_)
  | ((with_reducible show ClD _ (Value.builtin "len") [D.fz _] _ _); refine cd_len_fz ?_)
  | ((with_reducible show ClD _ (Value.type "int") [D.int _] _ _); refine cd_intI ?_)
  | ((with_reducible show ClD _ (Value.type "int") [D.bl _] _ _); refine cd_intB ?_)
  | ((with_reducible show ClD _ (Value.builtin "isinstance") [_, D.ty _] _ _); (with_reducible refine' cd_isi ?h1 ?h2 ?_); (case h1 => first | assumption | rfl); (case h2 => decide))
  | ((with_reducible show ClD _ (Value.builtin "isinstance") [_, D.tup [D.ty _, D.ty _]] _ _); (with_reducible refine' cd_isi2 ?h1 ?h2 ?h3 ?_); (case h1 => first | assumption | rfl); (case h2 => decide); (case h3 => decide)))
local macro_rules | `(tactic| wtm_at "sl v") => `(tactic| first
  | ((with_reducible show OpD _ (binaryOp Operator.Mod) (D.int _) (D.int _) _ _); refine od_modV (by omega) fun r h0 h1 => ?_)
  | ((with_reducible show OpD _ (binaryOp Operator.FloorDiv) (D.int _) (D.int _) _ _); refine od_div (divOk_le (by omega) (by omega)) ?_))
local macro_rules | `(tactic| wtm_at "sl m") => `(tactic| first
  | ((with_reducible show EJ _ (Expr.List (_ :: _) _) _ _ _ _); refine ej_lst ?_)
  | ((with_reducible show IxD _ (D.raw _) (D.int _) _ _); first | refine id_own 0 rfl rfl ?_ | refine id_own 1 rfl rfl ?_ | refine id_own 2 rfl rfl ?_)
  | ((with_reducible show if true = true then _ else _); refine ite_t ?_)
  | ((with_reducible show if (!false) = true then _ else _); refine ite_nf ?_)
  | ((with_reducible show if (!true) = true then _ else _); refine ite_nt ?_)
  | ((with_reducible show if false = true then _ else _); refine ite_f ?_)
  | ((with_reducible show ∃ k, D.bl _ = D.bl k ∧ _); refine ⟨_, rfl, ?_⟩)
  | ((with_reducible show ∃ i, D.int _ = D.int i ∧ _); refine ⟨_, rfl, ?_⟩)
  | ((with_reducible show OJ _ none _ _ _ _); refine oj_none ?_)
  | ((with_reducible show OJ _ (some _) _ _ _ _); refine oj_some ?_)
  | ((with_reducible show SlD _ (D.lst _) _ _ _ _); refine sd_lst ?_)
  | ((with_reducible show SlD _ (D.fz _) _ _ _ _); refine sd_fz ?_)
  | ((with_reducible show SlD _ (D.tup _) _ _ _ _); refine sd_tup ?_)
  | ((with_reducible show List.length _ ≤ 100000 ∧ _); refine ⟨Nat.le_of_ble_eq_true rfl, ?_⟩))
local macro_rules | `(tactic| wtm_at "sl") => `(tactic| repeat (first | wtm_at "sl e" | wtm_at "sl a" | wtm_at "sl b" | wtm_at "sl f" | wtm_at "sl h" | wtm_at "sl o" | wtm_at "sl t" | wtm_at "sl s" | wtm_at "sl m" | wtm_at "sl g" | wtm_at "sl i"))
local macro_rules | `(tactic| wtm_at "slv") => `(tactic| repeat (first | wtm_at "sl e" | wtm_at "sl a" | wtm_at "sl b" | wtm_at "sl f" | wtm_at "sl h" | wtm_at "sl v" | wtm_at "sl o" | wtm_at "sl t" | wtm_at "sl s" | wtm_at "sl m" | wtm_at "sl g" | wtm_at "sl i"))
local macro_rules | `(tactic| wtm_at "sl in") => `(tactic| conv => arg 2; whnf)
local macro_rules | `(tactic| wtm_at "sl r0") => `(tactic| refine ⟨[], List.nil_sublist _, rfl, ?_⟩)
section
variable {X : Cx} {st : Sls} {M : Mem} {Q : DK} {E : EK} {P : Program} {w : World} {K : PySem.W.Frag} {mg : Str → Option Value} {base : Heap} {f : Addr} {fd : FuncData} {d e : D} {es : List D} {lo hi : Int} {i : Int}
/-! ### the law's draws -/
def isSrc (o : MO) : Prop := ∃ a b c : Int, o = .lst [.int a, .int b, .int c]
def cCellAt : Ct := Pc fun ds Q _ => ∃ (ns : List Int) (k : Int), ds = [.fz (ns.map .int), .int k] ∧ 0 ≤ k ∧ ∀ z : Int, Q (.int z)
theorem f_l_cell_at (F : FunD K "_law_cell_at" "_law_cell_at" (defArgs s_l_cell_at) (defBody s_l_cell_at) (defScope s_l_cell_at) [] [] f fd) (B : Bs mg)  : FnOk P w K mg base (L2.CX P w) 1 f fd p_l_cell_at (spOf K 2 cCellAt) := by
  refine fn_rule F sc_l_cell_at fun X hX ds M Q E hl hc => ?_
  have cf := hX.cf sc_l_cell_at
  clear hX hl F
  obtain ⟨n0, n1, _⟩ := nms_l_cell_at
  obtain ⟨b1, b2, b3, b4, b5, b6, b7, b8, b9, b10, b11, b12, b13, b14, b15, b16, b17, b18, b19⟩ := B
  refine body_p hc fun Q' E' ⟨ns, k, e, hk, hq⟩ => ?_
  clear hc
  subst e
  wtm_at "sl in"
  wtm_at "sl"
  refine ite_dec (fun h => ?_) (fun h => ?_)
  · wtm_at "sl"
    refine id_mem (.inr (.inl rfl)) hk h fun e he => ?_
    rw [List.getElem?_map] at he
    cases hz : ns[k.toNat]? with
    | none => rw [hz] at he; cases he
    | some z =>
      rw [hz] at he
      cases he
      wtm_at "sl r0"
      exact hq z
  · wtm_at "sl"
    wtm_at "sl r0"
    exact hq 0
def cSource : Ct := Gc fun ds M Q _ => ∃ z, ds = [.int z] ∧ M = [] ∧ ∀ p o, isSrc o → Q (.raw (.ref p)) [(p, o)]
theorem f_l_source (F : FunD K "_law_source" "_law_source" (defArgs s_l_source) (defBody s_l_source) (defScope s_l_source) [] [] f fd) (B : Bs mg)  : FnOk P w K mg base (L2.CX P w) 1 f fd p_l_source (spOf K 1 cSource) := by
  refine fn_rule F sc_l_source fun X hX ds M Q E hl hc => ?_
  have cf := hX.cf sc_l_source
  clear hX hl F
  obtain ⟨n0, _⟩ := nms_l_source
  obtain ⟨b1, b2, b3, b4, b5, b6, b7, b8, b9, b10, b11, b12, b13, b14, b15, b16, b17, b18, b19⟩ := B
  refine body_g hc fun Q' E' ⟨z, e, em, hq⟩ => ?_
  clear hc
  subst e
  wtm_at "sl in"
  subst em
  refine sj_cons (s1_ret (ej_lstO ?_))
  wtm_at "slv"
  intro q
  exact ⟨_, List.Sublist.refl _, hq q _ ⟨_, _, _, rfl⟩⟩
def cTake : Ct := Lc fun ds p o Q => ∃ n, ds = [.raw (.ref p), .int n] ∧ isSrc o ∧ 0 < n ∧ n ≤ 10 ^ 2000 ∧ ∀ r o', 0 ≤ r → r < n → isSrc o' → Q (.int r) o'
theorem use_take (i : Nat) {p : Addr} {o : MO} {n : Int} (hi : M[i]? = some (p, o)) (ho : isSrc o) (h0 : 0 < n) (h1 : n ≤ 10 ^ 2000) (q : ∀ r o', 0 ≤ r → r < n → isSrc o' → Q (.int r) (M.set i (p, o'))) : CtJ cTake 2 [.raw (.ref p), .int n] st M Q E :=
  ctj_l i hi ⟨n, rfl, ho, h0, h1, q⟩
theorem f_l_take (F : FunD K "_law_take" "_law_take" (defArgs s_l_take) (defBody s_l_take) (defScope s_l_take) [] [] f fd) (B : Bs mg)  : FnOk P w K mg base (L2.CX P w) 1 f fd p_l_take (spOf K 2 cTake) := by
  refine fn_rule F sc_l_take fun X hX ds M Q E hl hc => ?_
  have cf := hX.cf sc_l_take
  clear hX hl F
  obtain ⟨n0, n1, n2, n3, _⟩ := nms_l_take
  obtain ⟨b1, b2, b3, b4, b5, b6, b7, b8, b9, b10, b11, b12, b13, b14, b15, b16, b17, b18, b19⟩ := B
  refine body_l hc fun p o Q' ⟨n, e, ⟨a, b, c, eo⟩, h0, h1, hq⟩ => ?_
  clear hc
  subst e
  wtm_at "sl in"
  subst eo
  wtm_at "slv"
  refine ite_dec (fun h => ?_) (fun h => ?_)
  · wtm_at "slv"
    refine ⟨p, 0, _, 0, 0, rfl, rfl, rfl, rfl, ?_⟩
    wtm_at "slv"
    exact ⟨_, List.Sublist.refl _, _, rfl, hq _ _ ‹_› ‹_› ⟨_, _, _, rfl⟩⟩
  · wtm_at "slv"
    refine ⟨p, 0, _, 2, 2, rfl, rfl, rfl, rfl, ?_⟩
    wtm_at "slv"
    exact ⟨_, List.Sublist.refl _, _, rfl, hq _ _ ‹_› ‹_› ⟨_, _, _, rfl⟩⟩
def cPick : Ct := Lc fun ds p o Q => ∃ d es, ds = [.raw (.ref p), d] ∧ isSrc o ∧ d.seq = some es ∧ 0 < es.length ∧ es.length ≤ 1000000 ∧ ∀ e o', e ∈ es → isSrc o' → Q e o'
theorem use_pick (i : Nat) {p : Addr} {o : MO} (hi : M[i]? = some (p, o)) (ho : isSrc o) (hs : d.seq = some es) (h0 : 0 < es.length) (h1 : es.length ≤ 1000000) (q : ∀ e o', e ∈ es → isSrc o' → Q e (M.set i (p, o'))) : CtJ cPick 2 [.raw (.ref p), d] st M Q E :=
  ctj_l i hi ⟨d, es, rfl, ho, hs, h0, h1, q⟩
theorem f_l_pick (F : FunD K "_law_pick" "_law_pick" (defArgs s_l_pick) (defBody s_l_pick) (defScope s_l_pick) [] [] f fd) (B : Bs mg) (h1 : FnI P w K mg base 1 "_law_take" p_l_take cTake) : FnOk P w K mg base (L2.CX P w) 2 f fd p_l_pick (spOf K 2 cPick) := by
  refine fn_rule F sc_l_pick fun X hX ds M Q E hl hc => ?_
  have cf := hX.cf sc_l_pick
  clear hX hl F
  obtain ⟨n0, n1, _⟩ := nms_l_pick
  obtain ⟨b1, b2, b3, b4, b5, b6, b7, b8, b9, b10, b11, b12, b13, b14, b15, b16, b17, b18, b19⟩ := B
  refine body_l hc fun p o Q' ⟨d, es, e, ho, hs, h0, hl, hq⟩ => ?_
  clear hc
  subst e
  wtm_at "sl in"
  wtm_at "sl"
  refine cd_len_seq hs ?_
  wtm_at "sl"
  refine use_take 0 rfl ho (by omega) (by omega) fun r o' h2 h3 ho' => ?_
  refine id_mem (seq_cases hs) h2 h3 fun e he => ?_
  exact ⟨_, List.Sublist.refl _, _, rfl, hq e o' (List.mem_of_getElem? he) ho'⟩
theorem erase_map {α β : Type} (f : α → β) (xs : List α) (i : Nat) : (xs.map f).eraseIdx i = (xs.eraseIdx i).map f := by
  rw [List.eraseIdx_eq_take_drop_succ, List.eraseIdx_eq_take_drop_succ, List.map_append, List.map_take, List.map_drop]
theorem erase_perm {α : Type} {xs : List α} {i : Nat} (h : i < xs.length) : ([xs[i]] ++ xs.eraseIdx i).Perm xs := by
  rw [List.eraseIdx_eq_take_drop_succ]
  have e : xs = xs.take i ++ xs[i] :: xs.drop (i + 1) := by rw [← List.drop_eq_getElem_cons h, List.take_append_drop]
  have := (List.perm_middle (a := xs[i]) (l₁ := xs.take i) (l₂ := xs.drop (i + 1))).symm
  rw [← e] at this
  exact this
def cShuf : Ct := Lc fun ds p o Q => ∃ ns : List Int, ds = [.raw (.ref p), .lst (ns.map .int)] ∧ isSrc o ∧ ns.length ≤ 1000000 ∧ ∀ (ms : List Int) o', ms.Perm ns → isSrc o' → Q (.lst (ms.map .int)) o'
theorem ne_nil_ints (ns : List Int) : (!(D.lst (ns.map .int)).eqv (.lst [])) = decide (ns ≠ []) := by
  rw [show (D.lst []) = .lst (([] : List Int).map .int) from rfl, eqv_lst_ints]
  by_cases h : ns = [] <;> simp [h]
theorem f_l_shuffled (F : FunD K "_law_shuffled" "_law_shuffled" (defArgs s_l_shuffled) (defBody s_l_shuffled) (defScope s_l_shuffled) [] [] f fd) (B : Bs mg) (h1 : FnI P w K mg base 1 "_law_take" p_l_take cTake) : FnOk P w K mg base (L2.CX P w) 2 f fd p_l_shuffled (spOf K 2 cShuf) := by
  refine fn_rule F sc_l_shuffled fun X hX ds M Q E hl hc => ?_
  have cf := hX.cf sc_l_shuffled
  clear hX hl F
  obtain ⟨n0, n1, n2, n3, _⟩ := nms_l_shuffled
  obtain ⟨b1, b2, b3, b4, b5, b6, b7, b8, b9, b10, b11, b12, b13, b14, b15, b16, b17, b18, b19⟩ := B
  refine body_l hc fun p o Q' ⟨ns, e, ho, hl, hq⟩ => ?_
  clear hc
  subst e
  wtm_at "sl in"
  wtm_at "sl"
  refine cd_listO (.inl rfl) fun l1 => ?_
  wtm_at "sl"
  refine ej_lstO ?_
  wtm_at "sl"
  intro l2
  wtm_at "sl"
  refine ⟨_, _, rfl, ?_⟩
  refine sj_cons (s1_while (fun m st' M' => ∃ (ms us : List Int) (o' : MO), st' = [some (.raw (.ref p)), some (.lst (ns.map .int)), some (.raw (.ref l1)), some (.raw (.ref l2))] ∧ M' = [(l2, .lst (ms.map .int)), (l1, .lst (us.map .int)), (p, o')] ∧ isSrc o' ∧ m = us.length ∧ (ms ++ us).Perm ns) ns.length ⟨[], ns, o, rfl, rfl, ho, rfl, by simp⟩ ?_)
  rintro m st' M' ⟨ms, us, o', e1, e2, ho', e3, hp⟩
  subst e1 e2 e3
  have hlen := hp.length_eq
  rw [List.length_append] at hlen
  wtm_at "sl"
  refine ej_lst ?_
  wtm_at "sl"
  refine od_neO 1 rfl (oks_ints _ _) (by decide) ?_
  rw [ne_nil_ints]
  wtm_at "sl"
  refine ite_dec (fun hne => ?_) (fun hne => ?_)
  · have hpos : 0 < us.length := List.length_pos_iff.mpr hne
    wtm_at "sl"
    refine cd_len_own 1 rfl ?_
    rw [List.length_map]
    wtm_at "sl"
    refine use_take 2 rfl ho' (by omega) (by omega) fun r o2 h2 h3 ho2 => ?_
    wtm_at "sl"
    have hr : r.toNat < us.length := by omega
    refine md_popAt 1 rfl h2 (d := .int us[r.toNat]) (by rw [List.getElem?_map, List.getElem?_eq_getElem hr]; rfl) (by rw [List.length_map]; omega) ?_
    wtm_at "sl"
    refine md_append 0 rfl (by rw [List.length_map]; omega) ?_
    wtm_at "sl"
    refine ⟨(us.eraseIdx r.toNat).length, by rw [List.length_eraseIdx_of_lt hr]; omega, ms ++ [us[r.toNat]], us.eraseIdx r.toNat, o2, rfl, ?_, ho2, rfl, ?_⟩
    · have e4 : (us.map D.int).eraseIdx r.toNat = (us.eraseIdx r.toNat).map D.int := by rw [erase_map]
      simp [e4]
    · refine List.Perm.trans ?_ hp
      rw [List.append_assoc]
      refine List.Perm.append_left ms ?_
      exact erase_perm hr
  · have hnil : us = [] := by simpa using hne
    subst hnil
    refine sj_cons (s1_ret (ej_frz ?_))
    wtm_at "sl"
    refine ⟨l2, 0, _, rfl, rfl, [(p, o')], by simp, o', rfl, hq ms o' (by simpa using hp) ho'⟩
/-! ### drawn schedules, counts -/
def cRounds : Ct := Lc fun ds p o Q => ∃ n : Int, ds = [.raw (.ref p), .int n] ∧ isSrc o ∧ 0 ≤ n ∧ n ≤ 1000 ∧ ∀ (ns : List Int) o', (ns.length : Int) ≤ n → (∀ z ∈ ns, 2 ≤ z ∧ z ≤ 7) → isSrc o' → Q (.lst (ns.map .int)) o'
theorem f_l_rounds (F : FunD K "_law_rounds" "_law_rounds" (defArgs s_l_rounds) (defBody s_l_rounds) (defScope s_l_rounds) [] [] f fd) (B : Bs mg) (h1 : FnI P w K mg base 1 "_law_take" p_l_take cTake) (h2 : FnI P w K mg base 2 "_law_pick" p_l_pick cPick) : FnOk P w K mg base (L2.CX P w) 3 f fd p_l_rounds (spOf K 2 cRounds) := by
  refine fn_rule F sc_l_rounds fun X hX ds M Q E hl hc => ?_
  have cf := hX.cf sc_l_rounds
  clear hX hl F
  obtain ⟨n0, n1, n2, n3, _⟩ := nms_l_rounds
  obtain ⟨b1, b2, b3, b4, b5, b6, b7, b8, b9, b10, b11, b12, b13, b14, b15, b16, b17, b18, b19⟩ := B
  refine body_l hc fun p o Q' ⟨n, e, ho, h0, hn, hq⟩ => ?_
  clear hc
  subst e
  wtm_at "sl in"
  wtm_at "sl"
  refine ej_lstO ?_
  wtm_at "sl"
  intro l1
  refine' sj_cons (s1_fr cf (fun i st' M' => ∃ (ns : List Int) (o' : MO) (a : Option D), st' = [some (.raw (.ref p)), some (.int n), some (.raw (.ref l1)), a] ∧ M' = [(l1, .lst (ns.map .int)), (p, o')] ∧ isSrc o' ∧ ns.length = i ∧ ∀ z ∈ ns, 2 ≤ z ∧ z ≤ 7) ?_)
  wtm_at "sl"
  refine use_take 1 rfl ho (by omega) (by omega) fun r o1 h3 h4 ho1 => ?_
  wtm_at "sl"
  refine ⟨r, rfl, ⟨by omega, by omega⟩, ⟨[], o1, none, rfl, rfl, ho1, rfl, by simp⟩, fun i x st' M' hx ⟨ns, o', a, e1, e2, ho', hl, hz⟩ => ?_, fun st' M' ⟨ns, o', a, e1, e2, ho', hl, hz⟩ => ?_⟩
  · subst e1 e2
    obtain ⟨hi, rfl⟩ := rngD_get hx
    wtm_at "sl"
    refine use_take 1 rfl ho' (by omega) (by omega) fun r2 o2 h5 h6 ho2 => ?_
    wtm_at "sl"
    refine use_pick 1 rfl ho2 rfl (by simp) (by simp) fun e o3 he ho3 => ?_
    obtain ⟨z, rfl, hz1, hz2⟩ : ∃ z, e = .int z ∧ 2 ≤ z ∧ z ≤ 7 := by
      simp only [List.mem_cons, List.not_mem_nil, or_false] at he
      rcases he with rfl | rfl | rfl | rfl | rfl | rfl | rfl <;> exact ⟨_, rfl, by omega, by omega⟩
    wtm_at "sl"
    refine md_append 0 rfl (by rw [List.length_map]; omega) ?_
    wtm_at "sl"
    refine ⟨ns ++ [z], o3, _, rfl, by simp, ho3, by simp [hl], fun y hy => ?_⟩
    rcases List.mem_append.mp hy with hy | hy
    · exact hz y hy
    · simp at hy; subst hy; exact ⟨hz1, hz2⟩
  · subst e1 e2
    refine sj_cons (s1_ret (ej_frz ?_))
    wtm_at "sl"
    exact ⟨l1, 0, _, rfl, rfl, _, List.Sublist.refl _, o', rfl, hq ns o' (by rw [rngD_len] at hl; omega) hz ho'⟩
def cCrowd : Ct := Lc fun ds p o Q => ∃ n wd : Int, ds = [.raw (.ref p), .int n, .int wd] ∧ isSrc o ∧ 0 ≤ n ∧ n ≤ 1000 ∧ 2 ≤ wd ∧ wd ≤ 10 ^ 20 ∧ ∀ (cs : List Int) o', (cs.length : Int) ≤ n → (∀ z ∈ cs, 0 ≤ z ∧ z < wd) → isSrc o' → Q (.tup (cs.map .int)) o'
theorem f_l_crowd (F : FunD K "_law_crowd" "_law_crowd" (defArgs s_l_crowd) (defBody s_l_crowd) (defScope s_l_crowd) [] [] f fd) (B : Bs mg) (h1 : FnI P w K mg base 1 "_law_take" p_l_take cTake) (h2 : FnI P w K mg base 2 "_law_pick" p_l_pick cPick) : FnOk P w K mg base (L2.CX P w) 3 f fd p_l_crowd (spOf K 3 cCrowd) := by
  refine fn_rule F sc_l_crowd fun X hX ds M Q E hl hc => ?_
  have cf := hX.cf sc_l_crowd
  clear hX hl F
  obtain ⟨n0, n1, n2, n3, _⟩ := nms_l_crowd
  obtain ⟨b1, b2, b3, b4, b5, b6, b7, b8, b9, b10, b11, b12, b13, b14, b15, b16, b17, b18, b19⟩ := B
  refine body_l hc fun p o Q' ⟨n, wd, e, ho, h0, hn, hw0, hw, hq⟩ => ?_
  clear hc
  subst e
  wtm_at "sl in"
  wtm_at "sl"
  refine ej_cp [("_law_k", 3)] cf (by kernel_rfl) ?_
  wtm_at "sl"
  refine use_take 0 rfl ho (by omega) (by omega) fun r o1 h3 h4 ho1 => ?_
  wtm_at "sl"
  refine ⟨r, rfl, ⟨by omega, by omega⟩, ?_⟩
  refine lcj_eff (fun i acc M' => ∃ (cs : List Int) (o' : MO), acc = cs.map .int ∧ cs.length = i ∧ M' = [(p, o')] ∧ isSrc o' ∧ ∀ z ∈ cs, 0 ≤ z ∧ z < wd) [3] (by decide) (by rw [rngD_len]; omega) ⟨[], o1, rfl, rfl, rfl, ho1, by simp⟩ (fun i d acc M' hd ⟨cs, o', ea, hl, em, ho', hz⟩ Y hY => ?_) fun acc M' _ ⟨cs, o', ea, hl, em, ho', hz⟩ => ?_
  · subst ea em
    have cf1 := cf.blk hY
    wtm_at "sl"
    intro Y2 hY2
    have cf2 := cf.blk hY2
    wtm_at "sl"
    refine use_take 0 rfl ho' (by omega) (by omega) fun r2 o2 h5 h6 ho2 => ?_
    wtm_at "sl"
    refine use_pick 0 rfl ho2 rfl (by simp) (by simp) fun e o3 he ho3 => ?_
    obtain ⟨z, rfl, hz1, hz2⟩ : ∃ z, e = .int z ∧ 0 ≤ z ∧ z < wd := by
      simp only [List.mem_cons, List.not_mem_nil, or_false] at he
      rcases he with rfl | rfl | rfl <;> exact ⟨_, rfl, by omega, by omega⟩
    refine ⟨cs ++ [z], o3, by simp, by simp [hl], rfl, ho3, fun y hy => ?_⟩
    rcases List.mem_append.mp hy with hy | hy
    · exact hz y hy
    · simp at hy; subst hy; exact ⟨hz1, hz2⟩
  · subst ea em
    wtm_at "sl"
    refine cd_tuple_lst ?_
    wtm_at "sl"
    refine ⟨_, List.Sublist.refl _, o', rfl, hq cs o' (by rw [rngD_len] at hl; omega) hz ho'⟩
def cPath : Ct := Lc fun ds p o Q => ∃ ns : List Int, ds = [.raw (.ref p), .lst (ns.map .int)] ∧ isSrc o ∧ ns.length ≤ 1000 ∧ (∀ z ∈ ns, 1 ≤ z ∧ z ≤ 10 ^ 20) ∧ ∀ (cs : List Int) o', cs.length = ns.length → (∀ (i : Nat) (c z : Int), cs[i]? = some c → ns[i]? = some z → 0 ≤ c ∧ c < z) → isSrc o' → Q (.lst (cs.map .int)) o'
theorem f_l_path (F : FunD K "_law_path" "_law_path" (defArgs s_l_path) (defBody s_l_path) (defScope s_l_path) [] [] f fd) (B : Bs mg) (h1 : FnI P w K mg base 1 "_law_take" p_l_take cTake) : FnOk P w K mg base (L2.CX P w) 2 f fd p_l_path (spOf K 2 cPath) := by
  refine fn_rule F sc_l_path fun X hX ds M Q E hl hc => ?_
  have cf := hX.cf sc_l_path
  clear hX hl F
  obtain ⟨n0, n1, n2, _⟩ := nms_l_path
  obtain ⟨b1, b2, b3, b4, b5, b6, b7, b8, b9, b10, b11, b12, b13, b14, b15, b16, b17, b18, b19⟩ := B
  refine body_l hc fun p o Q' ⟨ns, e, ho, hn, hz, hq⟩ => ?_
  clear hc
  subst e
  wtm_at "sl in"
  wtm_at "sl"
  refine ej_cp [("_law_entry", 2)] cf (by kernel_rfl) ?_
  wtm_at "sl"
  refine lcj_eff (fun i acc M' => ∃ (cs : List Int) (o' : MO), acc = cs.map .int ∧ cs.length = i ∧ M' = [(p, o')] ∧ isSrc o' ∧ ∀ (j : Nat) (c z : Int), cs[j]? = some c → ns[j]? = some z → 0 ≤ c ∧ c < z) [2] (by decide) (by rw [List.length_map]; omega) ⟨[], o, rfl, rfl, rfl, ho, by simp⟩ (fun i d acc M' hd ⟨cs, o', ea, hl, em, ho', hc⟩ Y hY => ?_) fun acc M' _ ⟨cs, o', ea, hl, em, ho', hc⟩ => ?_
  · subst ea em
    rw [List.getElem?_map] at hd
    obtain ⟨z, hzi, rfl⟩ : ∃ z, ns[i]? = some z ∧ D.int z = d := by
      cases h : ns[i]? with
      | none => rw [h] at hd; cases hd
      | some z => rw [h] at hd; cases hd; exact ⟨z, rfl, rfl⟩
    obtain ⟨hz1, hz2⟩ := hz z (List.mem_of_getElem? hzi)
    have cf1 := cf.blk hY
    wtm_at "sl"
    intro Y2 hY2
    have cf2 := cf.blk hY2
    wtm_at "sl"
    refine use_take 0 rfl ho' (by omega) (by omega) fun r2 o2 h5 h6 ho2 => ?_
    refine ⟨cs ++ [r2], o2, by simp, by simp [hl], rfl, ho2, fun j c y h7 h8 => ?_⟩
    by_cases hj : j < cs.length
    · rw [List.getElem?_append_left hj] at h7
      exact hc j c y h7 h8
    · rw [List.getElem?_append_right (by omega)] at h7
      have hj2 : j = i := by
        have := (List.getElem?_eq_some_iff.mp h7).1
        simp at this
        omega
      subst hj2
      rw [hzi] at h8
      cases h8
      rw [hl, Nat.sub_self] at h7
      cases h7
      exact ⟨h5, h6⟩
  · subst ea em
    rw [List.length_map] at hl
    refine ⟨_, List.Sublist.refl _, o', rfl, hq cs o' hl hc ho'⟩

end
end SL

set_option maxHeartbeats 2000000
namespace SL
open PySem PySem.Spec PyProof.Rows L2 Evl
local macro_rules | `(tactic| wtm_at "sl e") => `(tactic| first
  | ((with_reducible show EJ _ (Expr.Name _ _) _ _ _ _); first | ((with_reducible refine' ej_nm ?h0 ?h1 ?h2 ?h3 ?h4 ?h5 ?_); (case h0 => with_reducible assumption); (case h1 => with_reducible assumption); (case h2 => kernel_rfl); (case h3 => kernel_rfl); (case h4 => rfl); (case h5 => kernel_rfl)) | ((with_reducible refine' ej_cn ?h0 ?h1 ?h2 ?_); (case h0 => with_reducible assumption); (case h1 => with_reducible assumption); (case h2 => kernel_rfl)) | ((with_reducible refine' ej_ty ?h0 ?h1 ?h2 ?_); (case h0 => with_reducible assumption); (case h1 => with_reducible assumption); (case h2 => kernel_rfl)))
  | ((with_reducible show EJ _ (Expr.Constant (Const.int _) _ _) _ _ _ _); refine ej_int ?_)
  | ((with_reducible show EJ _ (Expr.Constant (Const.str _) _ _) _ _ _ _); refine ej_str ?_)
  | ((with_reducible show EJ _ (Expr.Constant (Const.bool _) _ _) _ _ _ _); refine ej_bl ?_)
  | ((with_reducible show EJ _ (Expr.Constant Const.none _ _) _ _ _ _); refine ej_non ?_)
  | ((with_reducible show EJ _ (Expr.BinOp _ _ _ _) _ _ _ _); refine ej_op ?_)
  | ((with_reducible show EJ _ (Expr.UnaryOp UnaryOp.Not _ _) _ _ _ _); refine ej_not ?_)
  | ((with_reducible show EJ _ (Expr.UnaryOp _ _ _) _ _ _ _); refine ej_un ?_)
  | ((with_reducible show EJ _ (Expr.Tuple _ _ _) _ _ _ _); refine ej_tup ?_)
  | ((with_reducible show EJ _ (Expr.BoolOp _ [_] _) _ _ _ _); refine ej_one ?_)
  | ((with_reducible show EJ _ (Expr.BoolOp BoolOp.And _ _) _ _ _ _); refine ej_and ?_)
  | ((with_reducible show EJ _ (Expr.BoolOp BoolOp.Or _ _) _ _ _ _); refine ej_or ?_)
  | ((with_reducible show EJ _ (Expr.IfExp _ _ _ _) _ _ _ _); refine ej_if ?_)
  | ((with_reducible show EJ _ (Expr.Compare _ [_] _ _) _ _ _ _); (with_reducible refine' ej_cmp ?_ ?h1); (case h1 => first | exact nomark _ | rfl))
  | ((with_reducible show EJ _ (Expr.Compare _ [_, _] _ _) _ _ _ _); (with_reducible refine' ej_chain ?_ ?h1); (case h1 => rfl))
  | ((with_reducible show EJ _ (Expr.Subscript _ (Expr.Slice _ _ _ _) _) _ _ _ _); refine ej_slice ?_)
  | ((with_reducible show EJ _ (Expr.Subscript _ _ _) _ _ _ _); (with_reducible refine' ej_ix ?_ ?h1); (case h1 => intro _ _; rfl))
  | ((with_reducible show EJ _ (Expr.Call (Expr.Name (Str.ofString "list") _) [Expr.Call (Expr.Name (Str.ofString "range") _) [_] [] _] [] _) _ _ _ _); (with_reducible refine' ej_listRg ?h0 ?h1 ?h2 ?h3 ?h4 ?_ ?h5 ?h6); (case h0 => with_reducible assumption); (case h1 => with_reducible assumption); (case h2 => with_reducible assumption); (case h3 => kernel_rfl); (case h4 => kernel_rfl); (case h5 => rfl); (case h6 => rfl))
  | ((with_reducible show EJ _ (Expr.Call (Expr.Name _ _) (_ :: _) [] _) _ _ _ _); first | ((with_reducible refine' ej_cB ?h0 ?h1 ?h2 ?_ ?h3 ?h4); (case h0 => with_reducible assumption); (case h1 => with_reducible assumption); (case h2 => kernel_rfl); (case h3 => rfl); (case h4 => rfl)) | ((with_reducible refine' ej_cT ?h0 ?h1 ?h2 ?_ ?h3 ?h4); (case h0 => with_reducible assumption); (case h1 => with_reducible assumption); (case h2 => kernel_rfl); (case h3 => rfl); (case h4 => rfl)) | ((with_reducible refine' ej_fn ?h0 ?h1 ?h2 ?h3 ?h4 ?_ ?h5 ?h6); (case h0 => with_reducible assumption); (case h1 => with_reducible assumption); (case h2 => kernel_rfl); (case h3 => kernel_rfl); (case h4 => kernel_rfl); (case h5 => rfl); (case h6 => rfl)) | ((with_reducible refine' ej_mk ?h0 ?h1 ?h2 ?h3 ?h4 ?_ ?h5 ?h6); (case h0 => with_reducible assumption); (case h1 => with_reducible assumption); (case h2 => kernel_rfl); (case h3 => kernel_rfl); (case h4 => kernel_rfl); (case h5 => rfl); (case h6 => rfl))))
local macro_rules | `(tactic| wtm_at "sl f") => `(tactic| first
  | ((with_reducible show EJ _ (Expr.Attribute _ _ _) _ _ _ _); (with_reducible refine' ej_fl ?h0 ?h1 ?h2 ?_ ?h3); (case h0 => with_reducible assumption); (case h1 => with_reducible assumption); (case h2 => with_reducible assumption); (case h3 => rfl))
  | ((with_reducible show SJ _ (Stmt.Assign [Expr.Attribute _ _ _] _ _ :: _) _ _ _); (with_reducible refine' sj_cons (s1_fl ?h0 ?h1 ?h2 ?_ ?h3)); (case h0 => with_reducible assumption); (case h1 => with_reducible assumption); (case h2 => with_reducible assumption); (case h3 => rfl))
  | ((with_reducible show EJ _ (Expr.Call (Expr.Attribute _ _ _) (_ :: _) [] _) _ _ _ _); (with_reducible refine' ej_mt ?h0 ?h1 ?h2 ?_ ?h3 ?h4 ?h5); (case h0 => with_reducible assumption); (case h1 => with_reducible assumption); (case h2 => kernel_rfl); (case h3 => rfl); (case h4 => rfl); (case h5 => rfl))
  | ((with_reducible show EJ _ (Expr.Call (Expr.Attribute _ _ _) [] [] _) _ _ _ _); (with_reducible refine' ej_mt0 ?h0 ?h1 ?h2 ?_ ?h3); (case h0 => with_reducible assumption); (case h1 => with_reducible assumption); (case h2 => kernel_rfl); (case h3 => rfl)))
local macro_rules | `(tactic| wtm_at "sl h") => `(tactic| first
  | ((with_reducible show ∃ d, FldD (D.ins _ _) _ _ d _ ∧ _); refine ⟨_, ⟨_, rfl, .inl rfl⟩, ?_⟩)
  | ((with_reducible show InsAt (D.ins _ _) _ _ _ ∧ _); refine ⟨⟨_, rfl, .inl rfl⟩, ?_⟩))
local macro_rules | `(tactic| wtm_at "sl b") => `(tactic| first
  | ((with_reducible show EJ _ (Expr.Call (Expr.Attribute _ (Str.ofString "append") _) (_ :: _) [] _) _ _ _ _); (with_reducible refine' ej_bm PySem.F.plainAttrs_list PySem.F.slot_list_append PySem.F.type_list_append ?_ ?h1 ?h2 ?h3 ?h4 ?h5); (case h1 => rfl); (case h2 => rfl); (case h3 => rfl); (case h4 => rfl); (case h5 => rfl))
  | ((with_reducible show EJ _ (Expr.Call (Expr.Attribute _ (Str.ofString "extend") _) (_ :: _) [] _) _ _ _ _); (with_reducible refine' ej_bm PySem.F.plainAttrs_list PySem.F.slot_list_extend PySem.F.type_list_extend ?_ ?h1 ?h2 ?h3 ?h4 ?h5); (case h1 => rfl); (case h2 => rfl); (case h3 => rfl); (case h4 => rfl); (case h5 => rfl))
  | ((with_reducible show EJ _ (Expr.Call (Expr.Attribute _ (Str.ofString "pop") _) (_ :: _) [] _) _ _ _ _); (with_reducible refine' ej_bm PySem.F.plainAttrs_list PySem.F.slot_list_pop PySem.F.type_list_pop ?_ ?h1 ?h2 ?h3 ?h4 ?h5); (case h1 => rfl); (case h2 => rfl); (case h3 => rfl); (case h4 => rfl); (case h5 => rfl))
  | ((with_reducible show EJ _ (Expr.Call (Expr.Attribute _ (Str.ofString "pop") _) [] [] _) _ _ _ _); (with_reducible refine' ej_bm0 PySem.F.plainAttrs_list PySem.F.slot_list_pop PySem.F.type_list_pop ?_ ?h1 ?h2); (case h1 => rfl); (case h2 => rfl))
  | ((with_reducible show EJ _ (Expr.Call (Expr.Attribute _ (Str.ofString "reverse") _) [] [] _) _ _ _ _); (with_reducible refine' ej_bm0 PySem.F.plainAttrs_list PySem.F.slot_list_reverse PySem.F.type_list_reverse ?_ ?h1 ?h2); (case h1 => rfl); (case h2 => rfl))
  | ((with_reducible show EJ _ (Expr.Call (Expr.Attribute _ (Str.ofString "clear") _) [] [] _) _ _ _ _); (with_reducible refine' ej_bm0 PySem.F.plainAttrs_list PySem.F.slot_list_clear PySem.F.type_list_clear ?_ ?h1 ?h2); (case h1 => rfl); (case h2 => rfl))
  | ((with_reducible show EJ _ (Expr.Call (Expr.Attribute _ (Str.ofString "index") _) (_ :: _) [] _) _ _ _ _); (with_reducible refine' ej_bm PySem.F.plainAttrs_list PySem.F.slot_list_index PySem.F.type_list_index ?_ ?h1 ?h2 ?h3 ?h4 ?h5); (case h1 => rfl); (case h2 => rfl); (case h3 => rfl); (case h4 => rfl); (case h5 => rfl))
  | ((with_reducible show HasTy _ _ (D.raw _) _ ∧ _); first | refine ⟨ty_own 0 rfl, ?_⟩ | refine ⟨ty_own 1 rfl, ?_⟩ | refine ⟨ty_own 2 rfl, ?_⟩)
  | ((with_reducible show HasTy _ _ (D.lst _) _ ∧ _); refine ⟨ty_lst, ?_⟩))
local macro_rules | `(tactic| wtm_at "sl a") => `(tactic| first
  | ((with_reducible show AJ _ [] _ _ _ _); refine aj_nil ?_)
  | ((with_reducible show AJ _ (_ :: _) _ _ _ _); (with_reducible refine' aj_cons ?_ ?h1); (case h1 => rfl)))
local macro_rules | `(tactic| wtm_at "sl t") => `(tactic| first
  | ((with_reducible show TJ _ (Expr.UnaryOp UnaryOp.Not _ _) _ _ _ _); refine tj_not ?_)
  | ((with_reducible show TJ _ (Expr.BoolOp _ _ _) _ _ _ _); refine tjs_of ?_)
  | ((with_reducible show TJ _ (Expr.Compare _ [_] _ _) _ _ _ _); (with_reducible refine' tj_cmp ?_ ?h1); (case h1 => first | exact nomark _ | rfl))
  | ((with_reducible show TJ _ (Expr.Compare _ [_, _] _ _) _ _ _ _); (with_reducible refine' tj_chain ?_ ?h1); (case h1 => rfl))
  | ((with_reducible show TJ _ (_) _ _ _ _); (with_reducible refine' tj_b ?_ ?h1); (case h1 => intro _; rfl))
  | ((with_reducible show TJs _ BoolOp.And (_ :: _ :: _) _ _ _ _ _); refine tjs_and ?_)
  | ((with_reducible show TJs _ BoolOp.Or (_ :: _ :: _) _ _ _ _ _); refine tjs_or ?_)
  | ((with_reducible show TJs _ _ [_] _ _ _ _ _); refine tjs_one ?_))
local macro_rules | `(tactic| wtm_at "sl s") => `(tactic| first
  | ((with_reducible show SJ _ [] _ _ _); refine sj_nil ?_)
  | ((with_reducible show SJ _ (Stmt.Return (some _) _ :: _) _ _ _); refine sj_cons (s1_ret ?_))
  | ((with_reducible show SJ _ (Stmt.Return none _ :: _) _ _ _); refine sj_cons (s1_retN ?_))
  | ((with_reducible show SJ _ (Stmt.If _ _ _ _ :: _) _ _ _); refine sj_cons (s1_if ?_))
  | ((with_reducible show SJ _ (Stmt.Pass _ :: _) _ _ _); refine sj_cons (s1_pass ?_))
  | ((with_reducible show SJ _ (Stmt.Break _ :: _) _ _ _); refine sj_cons (s1_break ?_))
  | ((with_reducible show SJ _ (Stmt.Continue _ :: _) _ _ _); refine sj_cons (s1_cont ?_))
  | ((with_reducible show SJ _ (Stmt.Assign [Expr.Subscript _ _ _] _ _ :: _) _ _ _); (with_reducible refine' sj_cons (s1_setI ?_ ?h1 ?h2 ?h3 ?h4)); (case h1 => intro _; rfl); (case h2 => rfl); (case h3 => rfl); (case h4 => rfl))
  | ((with_reducible show SJ _ (Stmt.Expr _ _ :: _) _ _ _); refine sj_cons (s1_expr ?_))
  | ((with_reducible show SJ _ (Stmt.Raise _ _ _ :: _) _ _ _); (with_reducible refine' sj_cons (s1_rs ?h0 ?h1 ?h2 ?h3 ?h4 ?_ ?h5 ?h6)); (case h0 => with_reducible assumption); (case h1 => with_reducible assumption); (case h2 => kernel_rfl); (case h3 => kernel_rfl); (case h4 => kernel_rfl); (case h5 => rfl); (case h6 => rfl))
  | ((with_reducible show SJ _ (Stmt.Assign [Expr.Name _ _] _ _ :: _) _ _ _); (with_reducible refine' sj_cons (s1_nm ?h0 ?h1 ?h2 ?h3 ?h4 ?_ ?h5)); (case h0 => with_reducible assumption); (case h1 => with_reducible assumption); (case h2 => kernel_rfl); (case h3 => kernel_rfl); (case h4 => kernel_rfl); (case h5 => rfl))
  | ((with_reducible show SJ _ (Stmt.AugAssign (Expr.Name _ _) _ _ _ :: _) _ _ _); (with_reducible refine' sj_cons (s1_ag ?h0 ?h1 ?h2 ?h3 ?h4 ?h5 ?_)); (case h0 => with_reducible assumption); (case h1 => with_reducible assumption); (case h2 => kernel_rfl); (case h3 => kernel_rfl); (case h4 => kernel_rfl); (case h5 => rfl))
  | ((with_reducible show SJ _ (Stmt.Assign [Expr.Tuple _ _ _] (Expr.Call _ _ _ _) _ :: _) _ _ _); (with_reducible refine' sj_cons (s1_asg ?_ ?h1 ?h2 ?h3)); (case h1 => rfl); (case h2 => rfl); (case h3 => rfl))
  | ((with_reducible show SJ _ (Stmt.Assign [Expr.Tuple [Expr.Name _ _, Expr.Name _ _] _ _] (Expr.Tuple [_, _] _ _) _ :: _) _ _ _); first | ((with_reducible refine' sj_cons (s1_prs ?h0 ?h1 ?h2 ?h3 ?h4 ?h5 ?h6 ?h7 ?h8 ?_ ?h9)); (case h0 => with_reducible assumption); (case h1 => with_reducible assumption); (case h2 => with_reducible assumption); (case h3 => kernel_rfl); (case h4 => kernel_rfl); (case h5 => kernel_rfl); (case h6 => kernel_rfl!); (case h7 => kernel_rfl!); (case h8 => kernel_rfl!); (case h9 => rfl)) | ((with_reducible refine' sj_cons (s1_ast ?h0 ?h1 ?_ ?h2 ?h3)); (case h0 => with_reducible assumption); (case h1 => kernel_rfl!); (case h2 => rfl); (case h3 => rfl)))
  | ((with_reducible show SJ _ (Stmt.Assign [Expr.Tuple _ _ _] (Expr.Tuple _ _ _) _ :: _) _ _ _); (with_reducible refine' sj_cons (s1_ast ?h0 ?h1 ?_ ?h2 ?h3)); (case h0 => with_reducible assumption); (case h1 => kernel_rfl!); (case h2 => rfl); (case h3 => rfl)))
local macro_rules | `(tactic| wtm_at "sl g") => `(tactic| first
  | ((with_reducible show GJ _ (Expr.Name _ _) _ _ _ _ _); (with_reducible refine' gj_nm ?h0 ?h1 ?h2 ?h3 ?h4 ?_); (case h0 => with_reducible assumption); (case h1 => with_reducible assumption); (case h2 => kernel_rfl); (case h3 => kernel_rfl); (case h4 => kernel_rfl))
  | ((with_reducible show GJ _ (Expr.Tuple [Expr.Name _ _, Expr.Name _ _] _ _) _ _ _ _ _); (with_reducible refine' gj_tp2 ?h0 ?h1 ?h2 ?h3 ?h4 ?h5 ?h6 ?h7 ?h8 ?_); (case h0 => with_reducible assumption); (case h1 => with_reducible assumption); (case h2 => with_reducible assumption); (case h3 => kernel_rfl); (case h4 => kernel_rfl); (case h5 => kernel_rfl); (case h6 => kernel_rfl); (case h7 => kernel_rfl); (case h8 => kernel_rfl))
  | ((with_reducible show GJ _ (Expr.Tuple [Expr.Name _ _, Expr.Name _ _, Expr.Name _ _] _ _) _ _ _ _ _); (with_reducible refine' gj_tp3 ?h0 ?h1 ?h2 ?h3 ?h4 ?h5 ?h6 ?h7 ?h8 ?h9 ?i0 ?i1 ?i2 ?_); (case h0 => with_reducible assumption); (case h1 => with_reducible assumption); (case h2 => with_reducible assumption); (case h3 => with_reducible assumption); (case h4 => kernel_rfl); (case h5 => kernel_rfl); (case h6 => kernel_rfl); (case h7 => kernel_rfl); (case h8 => kernel_rfl); (case h9 => kernel_rfl); (case i0 => kernel_rfl); (case i1 => kernel_rfl); (case i2 => kernel_rfl))
  | ((with_reducible show GJ _ (Expr.Tuple _ _ _) _ _ _ _ _); (with_reducible refine' gj_tp ?h0 ?_ ?h1 ?h2 ?h3); (case h0 => with_reducible assumption); (case h1 => rfl); (case h2 => rfl); (case h3 => rfl))
  | ((with_reducible show GsJ _ (_ :: _) _ _ _ _ _); (with_reducible refine' gsj_cons ?_ ?h1); (case h1 => rfl))
  | ((with_reducible show GsJ _ [] _ _ _ _ _); refine gsj_nil ?_))
local macro_rules | `(tactic| wtm_at "sl i") => `(tactic| first
  | ((with_reducible show IJ _ _ (Expr.Name _ _) _ _ _ _); (with_reducible refine' ij_nm ?h0 ?h1 ?h2 ?h3 ?h4 ?h5 ?h6 ?_); (case h0 => with_reducible assumption); (case h1 => with_reducible assumption); (case h2 => kernel_rfl); (case h3 => kernel_rfl); (case h4 => rfl); (case h5 => kernel_rfl); (case h6 => first | assumption | exact .inl rfl | exact .inr (.inl rfl) | exact .inr (.inr rfl)))
  | ((with_reducible show IJ _ _ (Expr.Call (Expr.Name (Str.ofString "enumerate") _) [_] [] _) _ _ _ _); (with_reducible refine' ij_en ?h0 ?h1 ?h2 ?_ ?h3); (case h0 => with_reducible assumption); (case h1 => with_reducible assumption); (case h2 => kernel_rfl); (case h3 => rfl))
  | ((with_reducible show IJ _ _ (Expr.Call (Expr.Name (Str.ofString "range") _) [_] [] _) _ _ _ _); (with_reducible refine' ij_r1 ?h0 ?h1 ?h2 ?_ ?h3); (case h0 => with_reducible assumption); (case h1 => with_reducible assumption); (case h2 => kernel_rfl); (case h3 => rfl))
  | ((with_reducible show IJ _ _ (Expr.Call (Expr.Name (Str.ofString "range") _) [_, _] [] _) _ _ _ _); (with_reducible refine' ij_r2 ?h0 ?h1 ?h2 ?_ ?h3 ?h4); (case h0 => with_reducible assumption); (case h1 => with_reducible assumption); (case h2 => kernel_rfl); (case h3 => rfl); (case h4 => rfl))
  | ((with_reducible show IJ _ _ (Expr.Subscript _ _ _) _ _ _ _); refine ij_list ?_)
  | ((with_reducible show IJ _ _ (Expr.BinOp _ _ _ _) _ _ _ _); refine ij_list ?_)
  | ((with_reducible show IJ _ _ (Expr.Call (Expr.Name (Str.ofString "zip") _) [_, _] [] _) _ _ _ _); (with_reducible refine' ij_zp ?h0 ?h1 ?h2 ?_ ?h3 ?h4); (case h0 => with_reducible assumption); (case h1 => with_reducible assumption); (case h2 => kernel_rfl); (case h3 => rfl); (case h4 => rfl)))
local macro_rules | `(tactic| wtm_at "sl o") => `(tactic| first
  | ((with_reducible show OpD _ (binaryOp Operator.Add) (D.int _) (D.int _) _ _); refine od_add ?_)
  | ((with_reducible show OpD _ (inplaceOp Operator.Add) (D.int _) (D.int _) _ _); refine oi_add ?_)
  | ((with_reducible show OpD _ (binaryOp Operator.Sub) (D.int _) (D.int _) _ _); refine od_sub ?_)
  | ((with_reducible show OpD _ (inplaceOp Operator.Sub) (D.int _) (D.int _) _ _); refine oi_sub ?_)
  | ((with_reducible show OpD _ (binaryOp Operator.Mult) (D.int _) (D.int _) _ _); refine od_mulC (by first | exact .inl ⟨by omega, by omega⟩ | exact .inr ⟨by omega, by omega⟩) ?_)
  | ((with_reducible show OpD _ (binaryOp Operator.Pow) (D.int 10) (D.int 9) _ _); refine od_p9 ?_)
  | ((with_reducible show OpD _ (binaryOp Operator.Pow) (D.int 10) (D.int 12) _ _); refine od_p12 ?_)
  | ((with_reducible show OpD _ (binaryOp Operator.Pow) (D.int 10) (D.int 18) _ _); refine od_p18 ?_)
  | ((with_reducible show OpD _ (binaryOp Operator.Pow) (D.int 10) (D.int 20) _ _); refine od_p20 ?_)
  | ((with_reducible show OpD _ (compareOp CmpOp.Lt) (D.int _) (D.int _) _ _); refine od_lt ?_)
  | ((with_reducible show OpD _ (compareOp CmpOp.LtE) (D.int _) (D.int _) _ _); refine od_le ?_)
  | ((with_reducible show OpD _ (compareOp CmpOp.Gt) (D.int _) (D.int _) _ _); refine od_gt ?_)
  | ((with_reducible show OpD _ (compareOp CmpOp.GtE) (D.int _) (D.int _) _ _); refine od_ge ?_)
  | ((with_reducible show OpD _ (compareOp CmpOp.Eq) (D.int _) (D.int _) _ _); refine od_eqI ?_)
  | ((with_reducible show OpD _ (compareOp CmpOp.NotEq) (D.int _) (D.int _) _ _); refine od_neI ?_)
  | ((with_reducible show OpD _ (compareOp CmpOp.Eq) (D.str _) (D.str _) _ _); refine od_eqS ?_)
  | ((with_reducible show UnD _ _ (D.int _) _ _); refine ud_neg ?_)
  | ((with_reducible show ClD _ (Value.builtin "len") [D.lst _] _ _); refine cd_len_lst ?_)
  | ((with_reducible show ClD _ (Value.builtin "len") [D.tup _] _ _); refine cd_len_tup ?_)
  | ((with_reducible show ClD _ (Value.builtin "len") [D.fz _] _ _); refine cd_len_fz ?_)
  | ((with_reducible show ClD _ (Value.type "int") [D.int _] _ _); refine cd_intI ?_)
  | ((with_reducible show ClD _ (Value.type "int") [D.bl _] _ _); refine cd_intB ?_)
  | ((with_reducible show ClD _ (Value.builtin "isinstance") [_, D.ty _] _ _); (with_reducible refine' cd_isi ?h1 ?h2 ?_); (case h1 => first | assumption | rfl); (case h2 => decide))
  | ((with_reducible show ClD _ (Value.builtin "isinstance") [_, D.tup [D.ty _, D.ty _]] _ _); (with_reducible refine' cd_isi2 ?h1 ?h2 ?h3 ?_); (case h1 => first | assumption | rfl); (case h2 => decide); (case h3 => decide)))
local macro_rules | `(tactic| wtm_at "sl v") => `(tactic| first
  | ((with_reducible show OpD _ (binaryOp Operator.Mod) (D.int _) (D.int _) _ _); refine od_modV (by omega) fun r h0 h1 => ?_)
  | ((with_reducible show OpD _ (binaryOp Operator.FloorDiv) (D.int _) (D.int _) _ _); refine od_div (divOk_le (by omega) (by omega)) ?_))
local macro_rules | `(tactic| wtm_at "sl m") => `(tactic| first
  | ((with_reducible show EJ _ (Expr.List (_ :: _) _) _ _ _ _); refine ej_lst ?_)
  | ((with_reducible show IxD _ (D.raw _) (D.int _) _ _); first | refine id_own 0 rfl rfl ?_ | refine id_own 1 rfl rfl ?_ | refine id_own 2 rfl rfl ?_)
  | ((with_reducible show if true = true then _ else _); refine ite_t ?_)
  | ((with_reducible show if (!false) = true then _ else _); refine ite_nf ?_)
  | ((with_reducible show if (!true) = true then _ else _); refine ite_nt ?_)
  | ((with_reducible show if false = true then _ else _); refine ite_f ?_)
  | ((with_reducible show ∃ k, D.bl _ = D.bl k ∧ _); refine ⟨_, rfl, ?_⟩)
  | ((with_reducible show ∃ i, D.int _ = D.int i ∧ _); refine ⟨_, rfl, ?_⟩)
  | ((with_reducible show OJ _ none _ _ _ _); refine oj_none ?_)
  | ((with_reducible show OJ _ (some _) _ _ _ _); refine oj_some ?_)
  | ((with_reducible show SlD _ (D.lst _) _ _ _ _); refine sd_lst ?_)
  | ((with_reducible show SlD _ (D.fz _) _ _ _ _); refine sd_fz ?_)
  | ((with_reducible show SlD _ (D.tup _) _ _ _ _); refine sd_tup ?_)
  | ((with_reducible show List.length _ ≤ 100000 ∧ _); refine ⟨Nat.le_of_ble_eq_true rfl, ?_⟩))
local macro_rules | `(tactic| wtm_at "sl") => `(tactic| repeat (first | wtm_at "sl e" | wtm_at "sl a" | wtm_at "sl b" | wtm_at "sl f" | wtm_at "sl h" | wtm_at "sl o" | wtm_at "sl t" | wtm_at "sl s" | wtm_at "sl m" | wtm_at "sl g" | wtm_at "sl i"))
local macro_rules | `(tactic| wtm_at "slv") => `(tactic| repeat (first | wtm_at "sl e" | wtm_at "sl a" | wtm_at "sl b" | wtm_at "sl f" | wtm_at "sl h" | wtm_at "sl v" | wtm_at "sl o" | wtm_at "sl t" | wtm_at "sl s" | wtm_at "sl m" | wtm_at "sl g" | wtm_at "sl i"))
local macro_rules | `(tactic| wtm_at "sl in") => `(tactic| conv => arg 2; whnf)
local macro_rules | `(tactic| wtm_at "sl r0") => `(tactic| refine ⟨[], List.nil_sublist _, rfl, ?_⟩)
section
variable {X : Cx} {st : Sls} {M : Mem} {Q : DK} {E : EK} {P : Program} {w : World} {K : PySem.W.Frag} {mg : Str → Option Value} {base : Heap} {f : Addr} {fd : FuncData} {d e : D} {es : List D} {lo hi : Int} {i : Int}
/-! ### weights, even splits -/
theorem prods_cons (ns : List Int) : prods ns = 1 :: (prods ns).tail := by
  unfold prods
  rw [List.range_succ_eq_map]
  simp [prodL]
def cShares : Ct := Pc fun ds Q _ => ∃ ns : List Int, ds = [.lst (ns.map .int)] ∧ SchOk ns ∧ Q (.lst ((prods ns).tail.map .int))
theorem f_l_shares (F : FunD K "_law_shares" "_law_shares" (defArgs s_l_shares) (defBody s_l_shares) (defScope s_l_shares) [] [] f fd) (B : Bs mg)  : FnOk P w K mg base (L2.CX P w) 1 f fd p_l_shares (spOf K 1 cShares) := by
  refine fn_rule F sc_l_shares fun X hX ds M Q E hl hc => ?_
  have cf := hX.cf sc_l_shares
  clear hX hl F
  obtain ⟨n0, n1, n2, n3, _⟩ := nms_l_shares
  obtain ⟨b1, b2, b3, b4, b5, b6, b7, b8, b9, b10, b11, b12, b13, b14, b15, b16, b17, b18, b19⟩ := B
  refine body_p hc fun Q' E' ⟨ns, e, ok, hq⟩ => ?_
  clear hc
  subst e
  wtm_at "sl in"
  have hlen := ok.len
  wtm_at "sl"
  refine ej_lstO ?_
  wtm_at "sl"
  intro q
  wtm_at "sl"
  refine ⟨_, _, rfl, ?_⟩
  refine' sj_cons (s1_fr cf (fun i st' M' => (∃ a, st' = [some (.lst (ns.map .int)), some (.raw (.ref q)), some (.int (prodL (ns.take i))), a]) ∧ M' = [(q, .lst ((prods (ns.take i)).tail.map .int))]) ?_)
  wtm_at "sl"
  refine ⟨⟨⟨none, rfl⟩, rfl⟩, fun i x st' M' hx ⟨⟨a, e1⟩, e2⟩ => ?_, fun st' M' ⟨⟨a, e1⟩, e2⟩ => ?_⟩
  · subst e1 e2
    rw [List.getElem?_map] at hx
    obtain ⟨z, hz, rfl⟩ : ∃ z, ns[i]? = some z ∧ D.int z = x := by
      cases h : ns[i]? with
      | none => rw [h] at hx; cases hx
      | some z => rw [h] at hx; cases hx; exact ⟨z, rfl, rfl⟩
    have hi : i < ns.length := (List.getElem?_eq_some_iff.mp hz).1
    have e3 : ns.take (i + 1) = ns.take i ++ [z] := by rw [List.take_add_one, hz]; rfl
    wtm_at "sl"
    refine od_mul (mulx_ok (a := 9000) (b := 9000) (ok.nat i) ?_ (by decide)) ?_
    · have h1 := ok.mem (List.mem_of_getElem? hz)
      have h2 := ok.ge z (List.mem_of_getElem? hz)
      have h3 := ok.lt
      omega
    wtm_at "sl"
    refine md_append 0 rfl (by rw [List.length_map, List.length_tail, prods_len]; have := List.length_take_le i ns; omega) ?_
    wtm_at "sl"
    have e4 : prodL (ns.take (i + 1)) = prodL (ns.take i) * z := by rw [e3, prodL_app]; simp [prodL]
    rw [e4]
    refine ⟨⟨_, rfl⟩, ?_⟩
    rw [e3, prods_snoc, prods_cons (ns.take i)]
    simp
  · subst e1 e2
    rw [List.length_map, List.take_length]
    refine sj_cons (s1_ret (ej_frz ?_))
    wtm_at "sl"
    exact ⟨q, 0, _, rfl, rfl, [], List.nil_sublist _, rfl, hq⟩
def cScaledL : Ct := Pc fun ds Q _ => ∃ ns cs : List Int, ds = [.lst (ns.map .int), .tup (cs.map .int)] ∧ SchOk ns ∧ cs.length ≤ 1000000 ∧ Huge cs ∧ Q (.tup [.int (scaledW ns cs), .int (prodL ns)])
theorem f_l_scaled (F : FunD K "_law_scaled" "_law_scaled" (defArgs s_l_scaled) (defBody s_l_scaled) (defScope s_l_scaled) [] [] f fd) (B : Bs mg) (h1 : FnI P w K mg base 1 "_law_shares" p_l_shares cShares) : FnOk P w K mg base (L2.CX P w) 2 f fd p_l_scaled (spOf K 2 cScaledL) := by
  refine fn_rule F sc_l_scaled fun X hX ds M Q E hl hc => ?_
  have cf := hX.cf sc_l_scaled
  clear hX hl F
  obtain ⟨n0, n1, n2, n3, n4, n5, _⟩ := nms_l_scaled
  obtain ⟨b1, b2, b3, b4, b5, b6, b7, b8, b9, b10, b11, b12, b13, b14, b15, b16, b17, b18, b19⟩ := B
  refine body_p hc fun Q' E' ⟨ns, cs, e, ok, hl, hh, hq⟩ => ?_
  clear hc
  subst e
  wtm_at "sl in"
  have hlen := ok.len
  wtm_at "sl"
  refine ctj_p ⟨ns, rfl, ok, ?_⟩
  wtm_at "sl"
  refine od_catL (by rw [List.length_map, List.length_tail, prods_len, List.length_singleton]; omega) ?_
  have e1 : [D.int 1] ++ (prods ns).tail.map D.int = (prods ns).map D.int := by
    conv => rhs; rw [prods_cons]
    rfl
  rw [e1]
  obtain ⟨qs, hqs⟩ := prods_last ns
  wtm_at "sl"
  refine id_lst (d := .int (prodL ns)) (by rw [hqs, List.map_append]; exact atI_last _ _) ?_
  wtm_at "sl"
  refine ej_cp [("_law_count_here", 4), ("_law_part", 5)] cf (by kernel_rfl) ?_
  wtm_at "sl"
  refine ⟨_, _, _, _, rfl, .inr (.inr rfl), .inl rfl, ?_⟩
  rw [zip_int]
  refine lcj_map (fun d => match d with
    | .tup [.int a, .int b] => .int (a * (prodL ns / b))
    | _ => .non) [4, 5] (by decide) (by simp; omega) (fun x hx Y hY => ?_) ?_
  · obtain ⟨⟨a, b⟩, hab, rfl⟩ := List.mem_map.mp hx
    have cf1 := cf.blk hY
    have ha := (List.of_mem_zip hab).1
    have hb := (List.of_mem_zip hab).2
    obtain ⟨i, hi, rfl⟩ : ∃ i, i ≤ ns.length ∧ prodL (ns.take i) = b := by
      have : b ∈ prods ns := List.mem_of_mem_tail hb
      unfold prods at this
      obtain ⟨i, hi, e⟩ := List.mem_map.mp this
      exact ⟨i, by simp at hi; omega, e⟩
    have hpos := prodL_pos (xs := ns.take i) fun z hz => ok.ge z (List.mem_of_mem_take hz)
    have hpl := ok.nat i
    have hP := ok.nat ns.length
    have hP1 := prodL_pos ok.ge
    rw [List.take_length] at hP
    wtm_at "sl"
    refine ⟨rfl, fun Y hY => ?_⟩
    have cf2 := cf.blk hY
    wtm_at "sl"
    refine od_div ⟨by omega, PyProof.noPylong_of_log2 ((Nat.log2_lt (by omega)).mpr hpl)⟩ ?_
    wtm_at "sl"
    refine od_mul (mulx_ok (a := 100000) (b := 9000) (hh a ha) ?_ (by decide)) ⟨rfl, rfl⟩
    have h5 : prodL ns / prodL (ns.take i) ≤ prodL ns := Int.ediv_le_self _ (by omega)
    have h6 : 0 ≤ prodL ns / prodL (ns.take i) := Int.ediv_nonneg (by omega) (by omega)
    dsimp only
    generalize prodL ns / prodL (ns.take i) = q at h5 h6 ⊢
    omega
  · wtm_at "sl"
    rw [show (((cs.zip (prods ns).tail).map fun p => D.tup [.int p.1, .int p.2]).map fun d => match d with
        | .tup [.int a, .int b] => D.int (a * (prodL ns / b))
        | _ => .non) = ((cs.zip (prods ns).tail).map fun p => p.1 * (prodL ns / p.2)).map D.int by simp]
    refine cd_sum cf.calm ?_
    wtm_at "sl"
    wtm_at "sl r0"
    exact hq
def evenRow (g : Int) (cs : List Int) (k : Int) : List Int := cs.map fun c => c / g + if k < c % g then 1 else 0
def cEven : Ct := Pc fun ds Q _ => ∃ (g : Int) (cs : List Int), ds = [.int g, .tup (cs.map .int)] ∧ 1 ≤ g ∧ g ≤ 1000 ∧ cs.length ≤ 1000 ∧ Q (.lst ((List.range g.toNat).map fun (k : Nat) => D.tup ((evenRow g cs k).map .int)))
theorem f_l_even (F : FunD K "_law_even" "_law_even" (defArgs s_l_even) (defBody s_l_even) (defScope s_l_even) [] [] f fd) (B : Bs mg)  : FnOk P w K mg base (L2.CX P w) 1 f fd p_l_even (spOf K 2 cEven) := by
  refine fn_rule F sc_l_even fun X hX ds M Q E hl hc => ?_
  have cf := hX.cf sc_l_even
  clear hX hl F
  obtain ⟨n0, n1, n2, n3, n4, _⟩ := nms_l_even
  obtain ⟨b1, b2, b3, b4, b5, b6, b7, b8, b9, b10, b11, b12, b13, b14, b15, b16, b17, b18, b19⟩ := B
  refine body_p hc fun Q' E' ⟨g, cs, e, h1, h2, hl, hq⟩ => ?_
  clear hc
  subst e
  wtm_at "sl in"
  wtm_at "sl"
  refine ej_lstO ?_
  wtm_at "sl"
  intro q
  wtm_at "sl"
  refine' sj_cons (s1_fr cf (fun i st' M' => (∃ a b, st' = [some (.int g), some (.tup (cs.map .int)), some (.raw (.ref q)), a, b]) ∧ M' = [(q, .lst ((List.range i).map fun (k : Nat) => D.tup ((evenRow g cs k).map .int)))]) ?_)
  wtm_at "sl"
  refine ⟨g, rfl, ⟨by omega, by omega⟩, ⟨⟨none, none, rfl⟩, rfl⟩, fun i x st' M' hx ⟨⟨a, b, e1⟩, e2⟩ => ?_, fun st' M' ⟨⟨a, b, e1⟩, e2⟩ => ?_⟩
  · subst e1 e2
    obtain ⟨hi, rfl⟩ := rngD_get hx
    wtm_at "sl"
    refine ej_cp [("_law_count_here", 4)] cf (by kernel_rfl) ?_
    wtm_at "sl"
    refine lcj_map (fun d => .int (d.val / g + if (i : Int) < d.val % g then 1 else 0)) [4] (by decide) (by rw [List.length_map]; omega) (fun x hx Y hY => ?_) ?_
    · obtain ⟨c, hc, rfl⟩ := List.mem_map.mp hx
      have cf1 := cf.blk hY
      wtm_at "sl"
      refine ⟨rfl, fun Y2 hY2 => ?_⟩
      have cf2 := cf.blk hY2
      wtm_at "sl"
      refine od_div (divOk_le (by omega) (by omega)) ?_
      wtm_at "sl"
      refine od_mod (by omega) ?_
      wtm_at "sl"
      rw [Int.zero_add]
      refine ⟨?_, rfl⟩
      by_cases h : (i : Int) < c % g <;> simp [D.val, h]
    · wtm_at "sl"
      refine cd_tuple_lst ?_
      wtm_at "sl"
      refine md_append 0 rfl (by simp; omega) ?_
      wtm_at "sl"
      refine ⟨⟨_, _, rfl⟩, ?_⟩
      rw [List.range_succ, List.map_append]
      simp [evenRow, D.val, Function.comp_def]
      try (intro a _; by_cases h : (i : Int) < a % g <;> simp [h])
  · subst e1 e2
    refine sj_cons (s1_ret (ej_frz ?_))
    wtm_at "sl"
    rw [rngD_len]
    exact ⟨q, 0, _, rfl, rfl, [], List.nil_sublist _, rfl, hq⟩

end
end SL

set_option maxHeartbeats 2000000
namespace SL
open PySem PySem.Spec PyProof.Rows L2 Evl
local macro_rules | `(tactic| wtm_at "sl e") => `(tactic| first
  | ((with_reducible show EJ _ (Expr.Name _ _) _ _ _ _); first | ((with_reducible refine' ej_nm ?h0 ?h1 ?h2 ?h3 ?h4 ?h5 ?_); (case h0 => with_reducible assumption); (case h1 => with_reducible assumption); (case h2 => kernel_rfl); (case h3 => kernel_rfl); (case h4 => rfl); (case h5 => kernel_rfl)) | ((with_reducible refine' ej_cn ?h0 ?h1 ?h2 ?_); (case h0 => with_reducible assumption); (case h1 => with_reducible assumption); (case h2 => kernel_rfl)) | ((with_reducible refine' ej_ty ?h0 ?h1 ?h2 ?_); (case h0 => with_reducible assumption); (case h1 => with_reducible assumption); (case h2 => kernel_rfl)))
  | ((with_reducible show EJ _ (Expr.Constant (Const.int _) _ _) _ _ _ _); refine ej_int ?_)
  | ((with_reducible show EJ _ (Expr.Constant (Const.str _) _ _) _ _ _ _); refine ej_str ?_)
  | ((with_reducible show EJ _ (Expr.Constant (Const.bool _) _ _) _ _ _ _); refine ej_bl ?_)
  | ((with_reducible show EJ _ (Expr.Constant Const.none _ _) _ _ _ _); refine ej_non ?_)
  | ((with_reducible show EJ _ (Expr.BinOp _ _ _ _) _ _ _ _); refine ej_op ?_)
  | ((with_reducible show EJ _ (Expr.UnaryOp UnaryOp.Not _ _) _ _ _ _); refine ej_not ?_)
  | ((with_reducible show EJ _ (Expr.UnaryOp _ _ _) _ _ _ _); refine ej_un ?_)
  | ((with_reducible show EJ _ (Expr.Tuple _ _ _) _ _ _ _); refine ej_tup ?_)
  | ((with_reducible show EJ _ (Expr.BoolOp _ [_] _) _ _ _ _); refine ej_one ?_)
  | ((with_reducible show EJ _ (Expr.BoolOp BoolOp.And _ _) _ _ _ _); refine ej_and ?_)
  | ((with_reducible show EJ _ (Expr.BoolOp BoolOp.Or _ _) _ _ _ _); refine ej_or ?_)
  | ((with_reducible show EJ _ (Expr.IfExp _ _ _ _) _ _ _ _); refine ej_if ?_)
  | ((with_reducible show EJ _ (Expr.Compare _ [_] _ _) _ _ _ _); (with_reducible refine' ej_cmp ?_ ?h1); (case h1 => first | exact nomark _ | rfl))
  | ((with_reducible show EJ _ (Expr.Compare _ [_, _] _ _) _ _ _ _); (with_reducible refine' ej_chain ?_ ?h1); (case h1 => rfl))
  | ((with_reducible show EJ _ (Expr.Subscript _ (Expr.Slice _ _ _ _) _) _ _ _ _); refine ej_slice ?_)
  | ((with_reducible show EJ _ (Expr.Subscript _ _ _) _ _ _ _); (with_reducible refine' ej_ix ?_ ?h1); (case h1 => intro _ _; rfl))
  | ((with_reducible show EJ _ (Expr.Call (Expr.Name (Str.ofString "list") _) [Expr.Call (Expr.Name (Str.ofString "range") _) [_] [] _] [] _) _ _ _ _); (with_reducible refine' ej_listRg ?h0 ?h1 ?h2 ?h3 ?h4 ?_ ?h5 ?h6); (case h0 => with_reducible assumption); (case h1 => with_reducible assumption); (case h2 => with_reducible assumption); (case h3 => kernel_rfl); (case h4 => kernel_rfl); (case h5 => rfl); (case h6 => rfl))
  | ((with_reducible show EJ _ (Expr.Call (Expr.Name _ _) (_ :: _) [] _) _ _ _ _); first | ((with_reducible refine' ej_cB ?h0 ?h1 ?h2 ?_ ?h3 ?h4); (case h0 => with_reducible assumption); (case h1 => with_reducible assumption); (case h2 => kernel_rfl); (case h3 => rfl); (case h4 => rfl)) | ((with_reducible refine' ej_cT ?h0 ?h1 ?h2 ?_ ?h3 ?h4); (case h0 => with_reducible assumption); (case h1 => with_reducible assumption); (case h2 => kernel_rfl); (case h3 => rfl); (case h4 => rfl)) | ((with_reducible refine' ej_fn ?h0 ?h1 ?h2 ?h3 ?h4 ?_ ?h5 ?h6); (case h0 => with_reducible assumption); (case h1 => with_reducible assumption); (case h2 => kernel_rfl); (case h3 => kernel_rfl); (case h4 => kernel_rfl); (case h5 => rfl); (case h6 => rfl)) | ((with_reducible refine' ej_mk ?h0 ?h1 ?h2 ?h3 ?h4 ?_ ?h5 ?h6); (case h0 => with_reducible assumption); (case h1 => with_reducible assumption); (case h2 => kernel_rfl); (case h3 => kernel_rfl); (case h4 => kernel_rfl); (case h5 => rfl); (case h6 => rfl))))
local macro_rules | `(tactic| wtm_at "sl f") => `(tactic| first
  | ((with_reducible show EJ _ (Expr.Attribute _ _ _) _ _ _ _); (with_reducible refine' ej_fl ?h0 ?h1 ?h2 ?_ ?h3); (case h0 => with_reducible assumption); (case h1 => with_reducible assumption); (case h2 => with_reducible assumption); (case h3 => rfl))
  | ((with_reducible show SJ _ (Stmt.Assign [Expr.Attribute _ _ _] _ _ :: _) _ _ _); (with_reducible refine' sj_cons (s1_fl ?h0 ?h1 ?h2 ?_ ?h3)); (case h0 => with_reducible assumption); (case h1 => with_reducible assumption); (case h2 => with_reducible assumption); (case h3 => rfl))
  | ((with_reducible show EJ _ (Expr.Call (Expr.Attribute _ _ _) (_ :: _) [] _) _ _ _ _); (with_reducible refine' ej_mt ?h0 ?h1 ?h2 ?_ ?h3 ?h4 ?h5); (case h0 => with_reducible assumption); (case h1 => with_reducible assumption); (case h2 => kernel_rfl); (case h3 => rfl); (case h4 => rfl); (case h5 => rfl))
  | ((with_reducible show EJ _ (Expr.Call (Expr.Attribute _ _ _) [] [] _) _ _ _ _); (with_reducible refine' ej_mt0 ?h0 ?h1 ?h2 ?_ ?h3); (case h0 => with_reducible assumption); (case h1 => with_reducible assumption); (case h2 => kernel_rfl); (case h3 => rfl)))
local macro_rules | `(tactic| wtm_at "sl h") => `(tactic| first
  | ((with_reducible show ∃ d, FldD (D.ins _ _) _ _ d _ ∧ _); refine ⟨_, ⟨_, rfl, .inl rfl⟩, ?_⟩)
  | ((with_reducible show InsAt (D.ins _ _) _ _ _ ∧ _); refine ⟨⟨_, rfl, .inl rfl⟩, ?_⟩))
local macro_rules | `(tactic| wtm_at "sl b") => `(tactic| first
  | ((with_reducible show EJ _ (Expr.Call (Expr.Attribute _ (Str.ofString "append") _) (_ :: _) [] _) _ _ _ _); (with_reducible refine' ej_bm PySem.F.plainAttrs_list PySem.F.slot_list_append PySem.F.type_list_append ?_ ?h1 ?h2 ?h3 ?h4 ?h5); (case h1 => rfl); (case h2 => rfl); (case h3 => rfl); (case h4 => rfl); (case h5 => rfl))
  | ((with_reducible show EJ _ (Expr.Call (Expr.Attribute _ (Str.ofString "extend") _) (_ :: _) [] _) _ _ _ _); (with_reducible refine' ej_bm PySem.F.plainAttrs_list PySem.F.slot_list_extend PySem.F.type_list_extend ?_ ?h1 ?h2 ?h3 ?h4 ?h5); (case h1 => rfl); (case h2 => rfl); (case h3 => rfl); (case h4 => rfl); (case h5 => rfl))
  | ((with_reducible show EJ _ (Expr.Call (Expr.Attribute _ (Str.ofString "pop") _) (_ :: _) [] _) _ _ _ _); (with_reducible refine' ej_bm PySem.F.plainAttrs_list PySem.F.slot_list_pop PySem.F.type_list_pop ?_ ?h1 ?h2 ?h3 ?h4 ?h5); (case h1 => rfl); (case h2 => rfl); (case h3 => rfl); (case h4 => rfl); (case h5 => rfl))
  | ((with_reducible show EJ _ (Expr.Call (Expr.Attribute _ (Str.ofString "pop") _) [] [] _) _ _ _ _); (with_reducible refine' ej_bm0 PySem.F.plainAttrs_list PySem.F.slot_list_pop PySem.F.type_list_pop ?_ ?h1 ?h2); (case h1 => rfl); (case h2 => rfl))
  | ((with_reducible show EJ _ (Expr.Call (Expr.Attribute _ (Str.ofString "reverse") _) [] [] _) _ _ _ _); (with_reducible refine' ej_bm0 PySem.F.plainAttrs_list PySem.F.slot_list_reverse PySem.F.type_list_reverse ?_ ?h1 ?h2); (case h1 => rfl); (case h2 => rfl))
  | ((with_reducible show EJ _ (Expr.Call (Expr.Attribute _ (Str.ofString "clear") _) [] [] _) _ _ _ _); (with_reducible refine' ej_bm0 PySem.F.plainAttrs_list PySem.F.slot_list_clear PySem.F.type_list_clear ?_ ?h1 ?h2); (case h1 => rfl); (case h2 => rfl))
  | ((with_reducible show EJ _ (Expr.Call (Expr.Attribute _ (Str.ofString "index") _) (_ :: _) [] _) _ _ _ _); (with_reducible refine' ej_bm PySem.F.plainAttrs_list PySem.F.slot_list_index PySem.F.type_list_index ?_ ?h1 ?h2 ?h3 ?h4 ?h5); (case h1 => rfl); (case h2 => rfl); (case h3 => rfl); (case h4 => rfl); (case h5 => rfl))
  | ((with_reducible show HasTy _ _ (D.raw _) _ ∧ _); first | refine ⟨ty_own 0 rfl, ?_⟩ | refine ⟨ty_own 1 rfl, ?_⟩ | refine ⟨ty_own 2 rfl, ?_⟩)
  | ((with_reducible show HasTy _ _ (D.lst _) _ ∧ _); refine ⟨ty_lst, ?_⟩))
local macro_rules | `(tactic| wtm_at "sl a") => `(tactic| first
  | ((with_reducible show AJ _ [] _ _ _ _); refine aj_nil ?_)
  | ((with_reducible show AJ _ (_ :: _) _ _ _ _); (with_reducible refine' aj_cons ?_ ?h1); (case h1 => rfl)))
local macro_rules | `(tactic| wtm_at "sl t") => `(tactic| first
  | ((with_reducible show TJ _ (Expr.UnaryOp UnaryOp.Not _ _) _ _ _ _); refine tj_not ?_)
  | ((with_reducible show TJ _ (Expr.BoolOp _ _ _) _ _ _ _); refine tjs_of ?_)
  | ((with_reducible show TJ _ (Expr.Compare _ [_] _ _) _ _ _ _); (with_reducible refine' tj_cmp ?_ ?h1); (case h1 => first | exact nomark _ | rfl))
  | ((with_reducible show TJ _ (Expr.Compare _ [_, _] _ _) _ _ _ _); (with_reducible refine' tj_chain ?_ ?h1); (case h1 => rfl))
  | ((with_reducible show TJ _ (_) _ _ _ _); (with_reducible refine' tj_b ?_ ?h1); (case h1 => intro _; rfl))
  | ((with_reducible show TJs _ BoolOp.And (_ :: _ :: _) _ _ _ _ _); refine tjs_and ?_)
  | ((with_reducible show TJs _ BoolOp.Or (_ :: _ :: _) _ _ _ _ _); refine tjs_or ?_)
  | ((with_reducible show TJs _ _ [_] _ _ _ _ _); refine tjs_one ?_))
local macro_rules | `(tactic| wtm_at "sl s") => `(tactic| first
  | ((with_reducible show SJ _ [] _ _ _); refine sj_nil ?_)
  | ((with_reducible show SJ _ (Stmt.Return (some _) _ :: _) _ _ _); refine sj_cons (s1_ret ?_))
  | ((with_reducible show SJ _ (Stmt.Return none _ :: _) _ _ _); refine sj_cons (s1_retN ?_))
  | ((with_reducible show SJ _ (Stmt.If _ _ _ _ :: _) _ _ _); refine sj_cons (s1_if ?_))
  | ((with_reducible show SJ _ (Stmt.Pass _ :: _) _ _ _); refine sj_cons (s1_pass ?_))
  | ((with_reducible show SJ _ (Stmt.Break _ :: _) _ _ _); refine sj_cons (s1_break ?_))
  | ((with_reducible show SJ _ (Stmt.Continue _ :: _) _ _ _); refine sj_cons (s1_cont ?_))
  | ((with_reducible show SJ _ (Stmt.Assign [Expr.Subscript _ _ _] _ _ :: _) _ _ _); (with_reducible refine' sj_cons (s1_setI ?_ ?h1 ?h2 ?h3 ?h4)); (case h1 => intro _; rfl); (case h2 => rfl); (case h3 => rfl); (case h4 => rfl))
  | ((with_reducible show SJ _ (Stmt.AugAssign (Expr.Subscript _ _ _) _ _ _ :: _) _ _ _); (with_reducible refine' sj_cons (s1_augI ?_ ?h1)); (case h1 => intros; rfl))
  | ((with_reducible show SJ _ (Stmt.Expr _ _ :: _) _ _ _); refine sj_cons (s1_expr ?_))
  | ((with_reducible show SJ _ (Stmt.Raise _ _ _ :: _) _ _ _); (with_reducible refine' sj_cons (s1_rs ?h0 ?h1 ?h2 ?h3 ?h4 ?_ ?h5 ?h6)); (case h0 => with_reducible assumption); (case h1 => with_reducible assumption); (case h2 => kernel_rfl); (case h3 => kernel_rfl); (case h4 => kernel_rfl); (case h5 => rfl); (case h6 => rfl))
  | ((with_reducible show SJ _ (Stmt.Assign [Expr.Name _ _] _ _ :: _) _ _ _); (with_reducible refine' sj_cons (s1_nm ?h0 ?h1 ?h2 ?h3 ?h4 ?_ ?h5)); (case h0 => with_reducible assumption); (case h1 => with_reducible assumption); (case h2 => kernel_rfl); (case h3 => kernel_rfl); (case h4 => kernel_rfl); (case h5 => rfl))
  | ((with_reducible show SJ _ (Stmt.AugAssign (Expr.Name _ _) _ _ _ :: _) _ _ _); (with_reducible refine' sj_cons (s1_ag ?h0 ?h1 ?h2 ?h3 ?h4 ?h5 ?_)); (case h0 => with_reducible assumption); (case h1 => with_reducible assumption); (case h2 => kernel_rfl); (case h3 => kernel_rfl); (case h4 => kernel_rfl); (case h5 => rfl))
  | ((with_reducible show SJ _ (Stmt.Assign [Expr.Tuple _ _ _] (Expr.Call _ _ _ _) _ :: _) _ _ _); (with_reducible refine' sj_cons (s1_asg ?_ ?h1 ?h2 ?h3)); (case h1 => rfl); (case h2 => rfl); (case h3 => rfl))
  | ((with_reducible show SJ _ (Stmt.Assign [Expr.Tuple [Expr.Name _ _, Expr.Name _ _] _ _] (Expr.Tuple [_, _] _ _) _ :: _) _ _ _); first | ((with_reducible refine' sj_cons (s1_prs ?h0 ?h1 ?h2 ?h3 ?h4 ?h5 ?h6 ?h7 ?h8 ?_ ?h9)); (case h0 => with_reducible assumption); (case h1 => with_reducible assumption); (case h2 => with_reducible assumption); (case h3 => kernel_rfl); (case h4 => kernel_rfl); (case h5 => kernel_rfl); (case h6 => kernel_rfl!); (case h7 => kernel_rfl!); (case h8 => kernel_rfl!); (case h9 => rfl)) | ((with_reducible refine' sj_cons (s1_ast ?h0 ?h1 ?_ ?h2 ?h3)); (case h0 => with_reducible assumption); (case h1 => kernel_rfl!); (case h2 => rfl); (case h3 => rfl)))
  | ((with_reducible show SJ _ (Stmt.Assign [Expr.Tuple _ _ _] (Expr.Tuple _ _ _) _ :: _) _ _ _); (with_reducible refine' sj_cons (s1_ast ?h0 ?h1 ?_ ?h2 ?h3)); (case h0 => with_reducible assumption); (case h1 => kernel_rfl!); (case h2 => rfl); (case h3 => rfl)))
local macro_rules | `(tactic| wtm_at "sl g") => `(tactic| first
  | ((with_reducible show GJ _ (Expr.Name _ _) _ _ _ _ _); (with_reducible refine' gj_nm ?h0 ?h1 ?h2 ?h3 ?h4 ?_); (case h0 => with_reducible assumption); (case h1 => with_reducible assumption); (case h2 => kernel_rfl); (case h3 => kernel_rfl); (case h4 => kernel_rfl))
  | ((with_reducible show GJ _ (Expr.Tuple [Expr.Name _ _, Expr.Name _ _] _ _) _ _ _ _ _); (with_reducible refine' gj_tp2 ?h0 ?h1 ?h2 ?h3 ?h4 ?h5 ?h6 ?h7 ?h8 ?_); (case h0 => with_reducible assumption); (case h1 => with_reducible assumption); (case h2 => with_reducible assumption); (case h3 => kernel_rfl); (case h4 => kernel_rfl); (case h5 => kernel_rfl); (case h6 => kernel_rfl); (case h7 => kernel_rfl); (case h8 => kernel_rfl))
  | ((with_reducible show GJ _ (Expr.Tuple [Expr.Name _ _, Expr.Name _ _, Expr.Name _ _] _ _) _ _ _ _ _); (with_reducible refine' gj_tp3 ?h0 ?h1 ?h2 ?h3 ?h4 ?h5 ?h6 ?h7 ?h8 ?h9 ?i0 ?i1 ?i2 ?_); (case h0 => with_reducible assumption); (case h1 => with_reducible assumption); (case h2 => with_reducible assumption); (case h3 => with_reducible assumption); (case h4 => kernel_rfl); (case h5 => kernel_rfl); (case h6 => kernel_rfl); (case h7 => kernel_rfl); (case h8 => kernel_rfl); (case h9 => kernel_rfl); (case i0 => kernel_rfl); (case i1 => kernel_rfl); (case i2 => kernel_rfl))
  | ((with_reducible show GJ _ (Expr.Tuple _ _ _) _ _ _ _ _); (with_reducible refine' gj_tp ?h0 ?_ ?h1 ?h2 ?h3); (case h0 => with_reducible assumption); (case h1 => rfl); (case h2 => rfl); (case h3 => rfl))
  | ((with_reducible show GsJ _ (_ :: _) _ _ _ _ _); (with_reducible refine' gsj_cons ?_ ?h1); (case h1 => rfl))
  | ((with_reducible show GsJ _ [] _ _ _ _ _); refine gsj_nil ?_))
local macro_rules | `(tactic| wtm_at "sl i") => `(tactic| first
  | ((with_reducible show IJ _ _ (Expr.Name _ _) _ _ _ _); (with_reducible refine' ij_nm ?h0 ?h1 ?h2 ?h3 ?h4 ?h5 ?h6 ?_); (case h0 => with_reducible assumption); (case h1 => with_reducible assumption); (case h2 => kernel_rfl); (case h3 => kernel_rfl); (case h4 => rfl); (case h5 => kernel_rfl); (case h6 => first | assumption | exact .inl rfl | exact .inr (.inl rfl) | exact .inr (.inr rfl)))
  | ((with_reducible show IJ _ _ (Expr.Call (Expr.Name (Str.ofString "enumerate") _) [_] [] _) _ _ _ _); (with_reducible refine' ij_en ?h0 ?h1 ?h2 ?_ ?h3); (case h0 => with_reducible assumption); (case h1 => with_reducible assumption); (case h2 => kernel_rfl); (case h3 => rfl))
  | ((with_reducible show IJ _ _ (Expr.Call (Expr.Name (Str.ofString "range") _) [_] [] _) _ _ _ _); (with_reducible refine' ij_r1 ?h0 ?h1 ?h2 ?_ ?h3); (case h0 => with_reducible assumption); (case h1 => with_reducible assumption); (case h2 => kernel_rfl); (case h3 => rfl))
  | ((with_reducible show IJ _ _ (Expr.Call (Expr.Name (Str.ofString "range") _) [_, _] [] _) _ _ _ _); (with_reducible refine' ij_r2 ?h0 ?h1 ?h2 ?_ ?h3 ?h4); (case h0 => with_reducible assumption); (case h1 => with_reducible assumption); (case h2 => kernel_rfl); (case h3 => rfl); (case h4 => rfl))
  | ((with_reducible show IJ _ _ (Expr.Subscript _ _ _) _ _ _ _); refine ij_list ?_)
  | ((with_reducible show IJ _ _ (Expr.BinOp _ _ _ _) _ _ _ _); refine ij_list ?_)
  | ((with_reducible show IJ _ _ (Expr.Call (Expr.Name (Str.ofString "zip") _) [_, _] [] _) _ _ _ _); (with_reducible refine' ij_zp ?h0 ?h1 ?h2 ?_ ?h3 ?h4); (case h0 => with_reducible assumption); (case h1 => with_reducible assumption); (case h2 => kernel_rfl); (case h3 => rfl); (case h4 => rfl)))
local macro_rules | `(tactic| wtm_at "sl o") => `(tactic| first
  | ((with_reducible show OpD _ (binaryOp Operator.Add) (D.int _) (D.int _) _ _); refine od_add ?_)
  | ((with_reducible show OpD _ (inplaceOp Operator.Add) (D.int _) (D.int _) _ _); refine oi_add ?_)
  | ((with_reducible show OpD _ (binaryOp Operator.Sub) (D.int _) (D.int _) _ _); refine od_sub ?_)
  | ((with_reducible show OpD _ (inplaceOp Operator.Sub) (D.int _) (D.int _) _ _); refine oi_sub ?_)
  | ((with_reducible show OpD _ (binaryOp Operator.Mult) (D.int _) (D.int _) _ _); refine od_mulC (by first | exact .inl ⟨by omega, by omega⟩ | exact .inr ⟨by omega, by omega⟩) ?_)
  | ((with_reducible show OpD _ (binaryOp Operator.Pow) (D.int 10) (D.int 9) _ _); refine od_p9 ?_)
  | ((with_reducible show OpD _ (binaryOp Operator.Pow) (D.int 10) (D.int 12) _ _); refine od_p12 ?_)
  | ((with_reducible show OpD _ (binaryOp Operator.Pow) (D.int 10) (D.int 18) _ _); refine od_p18 ?_)
  | ((with_reducible show OpD _ (binaryOp Operator.Pow) (D.int 10) (D.int 20) _ _); refine od_p20 ?_)
  | ((with_reducible show OpD _ (compareOp CmpOp.Lt) (D.int _) (D.int _) _ _); refine od_lt ?_)
  | ((with_reducible show OpD _ (compareOp CmpOp.LtE) (D.int _) (D.int _) _ _); refine od_le ?_)
  | ((with_reducible show OpD _ (compareOp CmpOp.Gt) (D.int _) (D.int _) _ _); refine od_gt ?_)
  | ((with_reducible show OpD _ (compareOp CmpOp.GtE) (D.int _) (D.int _) _ _); refine od_ge ?_)
  | ((with_reducible show OpD _ (compareOp CmpOp.Eq) (D.int _) (D.int _) _ _); refine od_eqI ?_)
  | ((with_reducible show OpD _ (compareOp CmpOp.NotEq) (D.int _) (D.int _) _ _); refine od_neI ?_)
  | ((with_reducible show OpD _ (compareOp CmpOp.Eq) (D.str _) (D.str _) _ _); refine od_eqS ?_)
  | ((with_reducible show UnD _ _ (D.int _) _ _); refine ud_neg ?_)
  | ((with_reducible show ClD _ (Value.builtin "len") [D.lst _] _ _); refine cd_len_lst ?_)
  | ((with_reducible show ClD _ (Value.builtin "len") [D.tup _] _ _); refine cd_len_tup ?_)
  | ((with_reducible show ClD _ (Value.builtin "len") [D.fz _] _ _); refine cd_len_fz ?_)
  | ((with_reducible show ClD _ (Value.type "int") [D.int _] _ _); refine cd_intI ?_)
  | ((with_reducible show ClD _ (Value.type "int") [D.bl _] _ _); refine cd_intB ?_)
  | ((with_reducible show ClD _ (Value.builtin "isinstance") [_, D.ty _] _ _); (with_reducible refine' cd_isi ?h1 ?h2 ?_); (case h1 => first | assumption | rfl); (case h2 => decide))
  | ((with_reducible show ClD _ (Value.builtin "isinstance") [_, D.tup [D.ty _, D.ty _]] _ _); (with_reducible refine' cd_isi2 ?h1 ?h2 ?h3 ?_); (case h1 => first | assumption | rfl); (case h2 => decide); (case h3 => decide)))
local macro_rules | `(tactic| wtm_at "sl v") => `(tactic| first
  | ((with_reducible show OpD _ (binaryOp Operator.Mod) (D.int _) (D.int _) _ _); refine od_modV (by omega) fun r h0 h1 => ?_)
  | ((with_reducible show OpD _ (binaryOp Operator.FloorDiv) (D.int _) (D.int _) _ _); refine od_div (divOk_le (by omega) (by omega)) ?_))
local macro_rules | `(tactic| wtm_at "sl m") => `(tactic| first
  | ((with_reducible show EJ _ (Expr.List (_ :: _) _) _ _ _ _); refine ej_lst ?_)
  | ((with_reducible show IxD _ (D.raw _) (D.int _) _ _); first | refine id_own 0 rfl rfl ?_ | refine id_own 1 rfl rfl ?_ | refine id_own 2 rfl rfl ?_)
  | ((with_reducible show if true = true then _ else _); refine ite_t ?_)
  | ((with_reducible show if (!false) = true then _ else _); refine ite_nf ?_)
  | ((with_reducible show if (!true) = true then _ else _); refine ite_nt ?_)
  | ((with_reducible show if false = true then _ else _); refine ite_f ?_)
  | ((with_reducible show ∃ k, D.bl _ = D.bl k ∧ _); refine ⟨_, rfl, ?_⟩)
  | ((with_reducible show ∃ i, D.int _ = D.int i ∧ _); refine ⟨_, rfl, ?_⟩)
  | ((with_reducible show OJ _ none _ _ _ _); refine oj_none ?_)
  | ((with_reducible show OJ _ (some _) _ _ _ _); refine oj_some ?_)
  | ((with_reducible show SlD _ (D.lst _) _ _ _ _); refine sd_lst ?_)
  | ((with_reducible show SlD _ (D.fz _) _ _ _ _); refine sd_fz ?_)
  | ((with_reducible show SlD _ (D.tup _) _ _ _ _); refine sd_tup ?_)
  | ((with_reducible show List.length _ ≤ 100000 ∧ _); refine ⟨Nat.le_of_ble_eq_true rfl, ?_⟩))
local macro_rules | `(tactic| wtm_at "sl") => `(tactic| repeat (first | wtm_at "sl e" | wtm_at "sl a" | wtm_at "sl b" | wtm_at "sl f" | wtm_at "sl h" | wtm_at "sl o" | wtm_at "sl t" | wtm_at "sl s" | wtm_at "sl m" | wtm_at "sl g" | wtm_at "sl i"))
local macro_rules | `(tactic| wtm_at "slv") => `(tactic| repeat (first | wtm_at "sl e" | wtm_at "sl a" | wtm_at "sl b" | wtm_at "sl f" | wtm_at "sl h" | wtm_at "sl v" | wtm_at "sl o" | wtm_at "sl t" | wtm_at "sl s" | wtm_at "sl m" | wtm_at "sl g" | wtm_at "sl i"))
local macro_rules | `(tactic| wtm_at "sl in") => `(tactic| conv => arg 2; whnf)
local macro_rules | `(tactic| wtm_at "sl r0") => `(tactic| refine ⟨[], List.nil_sublist _, rfl, ?_⟩)
section
variable {X : Cx} {st : Sls} {M : Mem} {Q : DK} {E : EK} {P : Program} {w : World} {K : PySem.W.Frag} {mg : Str → Option Value} {base : Heap} {f : Addr} {fd : FuncData} {d e : D} {es : List D} {lo hi : Int} {i : Int}
/-! ### the extreme, by the law -/
theorem od_seqT {rows : List D} (h : RowsOk rows) : rows.length ≤ 1000000 := h.1
def cExtL : Ct := Pc fun ds Q _ => ∃ (ns : List Int) (rows : List D) (b : Bool), ds = [.lst (ns.map .int), .lst rows, .bl b] ∧ SchOk ns ∧ RowsOk rows ∧ 0 < rows.length ∧ ∀ k : Nat, (if b = true then IsMin (rows.map fun r => scaledW ns (rowI r)) k else IsMax (rows.map fun r => scaledW ns (rowI r)) k) → Q (.int k)
theorem f_l_extreme (F : FunD K "_law_extreme" "_law_extreme" (defArgs s_l_extreme) (defBody s_l_extreme) (defScope s_l_extreme) [] [] f fd) (B : Bs mg) (h1 : FnI P w K mg base 2 "_law_scaled" p_l_scaled cScaledL) : FnOk P w K mg base (L2.CX P w) 3 f fd p_l_extreme (spOf K 3 cExtL) := by
  refine fn_rule F sc_l_extreme fun X hX ds M Q E hl0 hc0 => ?_
  have cf := hX.cf sc_l_extreme
  clear hX hl0 F
  obtain ⟨n0, n1, n2, n3, n4, _⟩ := nms_l_extreme
  obtain ⟨b1, b2, b3, b4, b5, b6, b7, b8, b9, b10, b11, b12, b13, b14, b15, b16, b17, b18, b19⟩ := B
  refine body_p hc0 fun Q' E' ⟨ns, rows, b, e, ok, hr, hpos, hq⟩ => ?_
  clear hc0
  subst e
  wtm_at "sl in"
  refine sj_cons (s1_lcF [("_law_part", 4)] n3 cf (by kernel_rfl) (by kernel_rfl) (by kernel_rfl) (by kernel_rfl) (by kernel_rfl) (by kernel_rfl) ?_)
  wtm_at "sl"
  refine lcj_map (fun r => .int (scaledW ns (rowI r))) [4] (by decide) hr.1 (fun r hm Y hY => ?_) ?_
  · have cf1 := cf.blk hY
    obtain ⟨ri, rfl, hl, hh⟩ := hr.2 r hm
    wtm_at "sl"
    refine ⟨rfl, fun Y2 hY2 => ?_⟩
    have cf2 := cf.blk hY2
    wtm_at "sl"
    refine ctj_p ⟨ns, ri, rfl, ok, hl, hh, ?_⟩
    wtm_at "sl"
    refine id_tup atI_zero ?_
    exact ⟨by simp only [rowI, val_int], rfl⟩
  · have e1 : (rows.map fun r => D.int (scaledW ns (rowI r))) = (rows.map fun r => scaledW ns (rowI r)).map D.int := by simp [Function.comp_def]
    rw [e1]
    have hne : 0 < (rows.map fun r => scaledW ns (rowI r)).length := by rw [List.length_map]; exact hpos
    wtm_at "sl"
    refine cd_maxL cf.calm hne fun m1 hm1 hm2 => ?_
    wtm_at "sl"
    refine cd_minL cf.calm hne fun m2 hm3 hm4 => ?_
    wtm_at "sl"
    cases b with
    | true =>
      simp only [if_true] at hq
      refine id_lst (d := .int m2) (by rw [if_pos rfl]; exact atI_nat (j := 1) rfl) ?_
      wtm_at "sl"
      refine md_index hm3 ?_
      wtm_at "sl r0"
      exact hq _ ⟨m2, hm3, hm4, rfl⟩
    | false =>
      simp only [Bool.false_eq_true, if_false] at hq
      refine id_lst (d := .int m1) (by rw [if_neg (by decide)]; exact atI_nat (j := 0) rfl) ?_
      wtm_at "sl"
      refine md_index hm1 ?_
      wtm_at "sl r0"
      exact hq _ ⟨m1, hm1, hm2, rfl⟩
/-! ### drawn splits -/
def colRow (cols : List (List Int)) (k : Nat) : List Int := cols.map fun c => c.getD k 0
def cParts : Ct := Lc fun ds p o Q => ∃ (g : Int) (cs : List Int), ds = [.raw (.ref p), .int g, .tup (cs.map .int)] ∧ isSrc o ∧ 2 ≤ g ∧ g ≤ 1000 ∧ cs.length ≤ 1000 ∧ (∀ z ∈ cs, 0 ≤ z ∧ z ≤ 10 ^ 20) ∧ ∀ (cols : List (List Int)) o', cols.length = cs.length → (∀ (i : Nat) (c : List Int) (z : Int), cols[i]? = some c → cs[i]? = some z → (c.length : Int) = g ∧ c.sum = z ∧ ∀ y ∈ c, 0 ≤ y) → isSrc o' → Q (.lst ((List.range g.toNat).map fun (k : Nat) => D.tup ((colRow cols k).map .int))) o'
theorem sum_set {c : List Int} {k : Nat} {v u : Int} (h : c[k]? = some u) : (c.set k v).sum = c.sum - u + v := by
  induction c generalizing k with
  | nil => simp at h
  | cons x xs ih =>
    cases k with
    | zero => simp at h; subst h; simp; omega
    | succ k =>
      have := ih (k := k) (by simpa using h)
      simp [this]; omega
theorem f_l_parts (F : FunD K "_law_parts" "_law_parts" (defArgs s_l_parts) (defBody s_l_parts) (defScope s_l_parts) [] [] f fd) (B : Bs mg) (h1 : FnI P w K mg base 1 "_law_take" p_l_take cTake) (h2 : FnI P w K mg base 2 "_law_pick" p_l_pick cPick) (h3 : FnI P w K mg base 2 "_law_shuffled" p_l_shuffled cShuf) : FnOk P w K mg base (L2.CX P w) 3 f fd p_l_parts (spOf K 3 cParts) := by
  refine fn_rule F sc_l_parts fun X hX ds M Q E hl0 hc0 => ?_
  have cf := hX.cf sc_l_parts
  clear hX hl0 F
  obtain ⟨n0, n1, n2, n3, n4, n5, n6, n7, _⟩ := nms_l_parts
  obtain ⟨b1, b2, b3, b4, b5, b6, b7, b8, b9, b10, b11, b12, b13, b14, b15, b16, b17, b18, b19⟩ := B
  refine body_l hc0 fun p o Q' ⟨g, cs, e, ho, hg0, hg1, hcl, hc, hq⟩ => ?_
  clear hc0
  subst e
  wtm_at "sl in"
  wtm_at "sl"
  refine ej_lstO ?_
  wtm_at "sl"
  intro q
  wtm_at "sl"
  refine' sj_cons (s1_fr cf (fun i st' M' => ∃ (cols : List (List Int)) (o' : MO) (a b c d : Option D), st' = [some (.raw (.ref p)), some (.int g), some (.tup (cs.map .int)), some (.raw (.ref q)), a, b, c, d] ∧ M' = [(q, .lst (cols.map fun c => .lst (c.map .int))), (p, o')] ∧ isSrc o' ∧ cols.length = i ∧
    ∀ (j : Nat) (c : List Int) (z : Int), cols[j]? = some c → cs[j]? = some z → (c.length : Int) = g ∧ c.sum = z ∧ ∀ y ∈ c, 0 ≤ y) ?_)
  wtm_at "sl"
  refine ⟨⟨[], o, none, none, none, none, rfl, rfl, ho, rfl, by simp⟩, fun i x st' M' hx ⟨cols, o', a, b, c, d, e1, e2, ho', hl, hcol⟩ => ?_, fun st' M' ⟨cols, o', a, b, c, d, e1, e2, ho', hl, hcol⟩ => ?_⟩
  · subst e1 e2
    rw [List.getElem?_map] at hx
    obtain ⟨z, hz, rfl⟩ : ∃ z, cs[i]? = some z ∧ D.int z = x := by
      cases h : cs[i]? with
      | none => rw [h] at hx; cases hx
      | some z => rw [h] at hx; cases hx; exact ⟨z, rfl, rfl⟩
    obtain ⟨hz0, hz1⟩ := hc z (List.mem_of_getElem? hz)
    wtm_at "sl"
    refine od_repLO ⟨by omega, by omega⟩ (by simp; omega) fun l1 => ?_
    rw [show (List.replicate g.toNat [D.int 0]).flatten = (List.replicate g.toNat (0 : Int)).map D.int by simp]
    wtm_at "sl"
    refine ⟨_, _, rfl, ?_⟩
    refine sj_cut (fun st' M' => ∃ (col : List Int) (lf : Int) (o2 : MO) (a : Option D), st' = [some (.raw (.ref p)), some (.int g), some (.tup (cs.map .int)), some (.raw (.ref q)), some (.int z), some (.raw (.ref l1)), some (.int lf), a] ∧ M' = [(l1, .lst (col.map .int)), (q, .lst (cols.map fun c => .lst (c.map .int))), (p, o2)] ∧ isSrc o2 ∧
      (col.length : Int) = g ∧ 0 ≤ lf ∧ lf ≤ z ∧ col.sum + lf = z ∧ (∀ y ∈ col, 0 ≤ y)) ?_ ?_
    · refine s1_for (js := [7]) cf.calm ?_
      wtm_at "sl"
      refine ⟨⟨by omega, by omega⟩, ?_⟩
      have erng : rngD 0 g.toNat = ((List.range g.toNat).map fun (i : Nat) => (0 : Int) + (i : Int)).map D.int := by simp [rngD, Function.comp_def]
      rw [erng]
      wtm_at "sl"
      refine ctj_l 2 rfl ⟨_, rfl, ho', by simp; omega, fun ms o2 hp ho2 => ?_⟩
      have hlen : ms.length = g.toNat := by rw [hp.length_eq]; simp
      have hnd : ms.Nodup := hp.nodup_iff.mpr (by
        rw [List.nodup_iff_pairwise_ne, List.pairwise_map]
        exact (List.nodup_iff_pairwise_ne.mp List.nodup_range).imp fun h e => h (by omega))
      have hrg : ∀ y ∈ ms, 0 ≤ y ∧ y < g := fun y hy => by
        have := hp.mem_iff.mp hy
        obtain ⟨i, hi, rfl⟩ := List.mem_map.mp this
        simp at hi
        omega
      cases ms with
      | nil => simp at hlen; omega
      | cons m0 ms =>
        wtm_at "sl"
        rw [List.map_cons, cut1]
        refine ⟨_, .inl rfl, ?_⟩
        refine ⟨fun i st' M' => ∃ (col : List Int) (lf : Int) (o2 : MO) (a : Option D), st' = [some (.raw (.ref p)), some (.int g), some (.tup (cs.map .int)), some (.raw (.ref q)), some (.int z), some (.raw (.ref l1)), some (.int lf), a] ∧ M' = [(l1, .lst (col.map .int)), (q, .lst (cols.map fun c => .lst (c.map .int))), (p, o2)] ∧ isSrc o2 ∧
          (col.length : Int) = g ∧ 0 ≤ lf ∧ lf ≤ z ∧ col.sum + lf = z ∧ (∀ y ∈ col, 0 ≤ y) ∧ ∀ y ∈ ms.drop i, col[y.toNat]? = some 0, ?_, fun i x st' M' hx ⟨col, lf, o3, a, e1, e2, ho3, h5, h6, h7, h8, h9, h10⟩ => ?_, fun st' M' ⟨col, lf, o3, a, e1, e2, ho3, h5, h6, h7, h8, h9, h10⟩ => ⟨col, lf, o3, a, e1, e2, ho3, h5, h6, h7, h8, h9⟩⟩
        · refine ⟨List.replicate g.toNat 0, z, o2, _, rfl, rfl, ho2, by simp; omega, hz0, Int.le_refl z, by simp, by simp, fun y hy => ?_⟩
          have := hrg y (List.mem_cons_of_mem _ (List.mem_of_mem_drop hy))
          rw [List.getElem?_replicate, if_pos (by omega)]
        · subst e1 e2
          rw [List.getElem?_map] at hx
          obtain ⟨k, hk, rfl⟩ : ∃ k, ms[i]? = some k ∧ D.int k = x := by
            cases h : ms[i]? with
            | none => rw [h] at hx; cases hx
            | some k => rw [h] at hx; cases hx; exact ⟨k, rfl, rfl⟩
          obtain ⟨hk0, hk1⟩ := hrg k (List.mem_cons_of_mem _ (List.mem_of_getElem? hk))
          have hil : i < ms.length := (List.getElem?_eq_some_iff.mp hk).1
          have hki : ms[i] = k := (List.getElem?_eq_some_iff.mp hk).2
          have hdrop : ms.drop i = k :: ms.drop (i + 1) := by rw [List.drop_eq_getElem_cons hil, hki]
          have hck : col[k.toNat]? = some 0 := h10 k (by rw [hdrop]; exact List.mem_cons_self)
          have hkl : k.toNat < col.length := by omega
          wtm_at "sl"
          refine use_take 2 rfl ho3 (by omega) (by omega) fun r o4 h11 h12 ho4 => ?_
          wtm_at "sl"
          refine use_pick 2 rfl ho4 rfl (by simp) (by simp) fun e o5 he ho5 => ?_
          obtain ⟨v, rfl, hv1, hv2⟩ : ∃ v, e = .int v ∧ 0 ≤ v ∧ v ≤ lf := by
            simp only [List.mem_cons, List.not_mem_nil, or_false] at he
            rcases he with rfl | rfl | rfl <;> exact ⟨_, rfl, by omega, by omega⟩
          wtm_at "sl"
          have hix : ixN (col.map D.int).length k = some k.toNat := by
            unfold ixN
            rw [List.length_map, if_pos hk0, if_pos (by omega)]
          refine ⟨l1, 0, _, k, k.toNat, rfl, rfl, rfl, hix, ?_⟩
          wtm_at "sl"
          refine id_own 0 rfl (d := .int v) (by rw [show k = ((k.toNat : Nat) : Int) by omega]; exact atI_nat (by rw [Int.toNat_natCast, List.getElem?_set_self (by rw [List.length_map]; exact hkl)])) ?_
          wtm_at "sl"
          have hmem : ∀ y ∈ col.set k.toNat v, y ∈ col ∨ y = v := fun y hy => List.mem_or_eq_of_mem_set hy
          refine ⟨col.set k.toNat v, lf - v, o5, _, rfl, ?_, ho5, by rw [List.length_set]; exact h5, by omega, by omega, ?_, fun y hy => ?_, fun y hy => ?_⟩
          · rw [List.map_set]; rfl
          · rw [sum_set hck]; omega
          · rcases hmem y hy with h | rfl
            · exact h9 y h
            · exact hv1
          · have h13 := h10 y (by rw [hdrop]; exact List.mem_cons_of_mem _ hy)
            have hne : k.toNat ≠ y.toNat := fun e => by
              have h14 := hrg y (List.mem_cons_of_mem _ (List.mem_of_mem_drop hy))
              have h15 : k = y := by omega
              subst h15
              have h16 := (List.nodup_cons.mp hnd).2
              have h17 : (ms.drop i).Nodup := h16.sublist (List.drop_sublist _ _)
              rw [hdrop] at h17
              exact (List.nodup_cons.mp h17).1 hy
            rw [List.getElem?_set_ne hne]
            exact h13
    · rintro st' M' ⟨col, lf, o2, a, e1, e2, ho2, h5, h6, h7, h8, h9⟩
      subst e1 e2
      have hcpos : 0 < col.length := by omega
      wtm_at "sl"
      refine md_append 1 rfl (by rw [List.length_map]; have := (List.getElem?_eq_some_iff.mp hz).1; omega) ?_
      wtm_at "sl"
      refine cd_minO 0 cf.calm rfl hcpos fun m hm1 hm2 => ?_
      wtm_at "sl"
      refine md_indexO 0 rfl hm1 ?_
      have hxl : col.idxOf m < col.length := List.idxOf_lt_length_iff.mpr hm1
      have hge : col[col.idxOf m]? = some m := by rw [List.getElem?_eq_getElem hxl, List.getElem_idxOf]
      refine ⟨l1, 0, _, (col.idxOf m : Nat), .int m, rfl, rfl, rfl, atI_nat (by rw [List.getElem?_map, hge]; rfl), ?_⟩
      wtm_at "sl"
      refine ⟨0, _, col.idxOf m, rfl, ?_, ?_⟩
      · unfold ixN
        rw [List.length_map, if_pos (by omega), if_pos (by omega)]
        simp
      · have e3 : (col.map D.int).set (col.idxOf m) (.int (m + lf)) = (col.set (col.idxOf m) (m + lf)).map D.int := by rw [List.map_set]
        rw [e3]
        refine sj_frzIn 5 rfl ?_ rfl
        wtm_at "sl"
        refine ⟨cols ++ [col.set (col.idxOf m) (m + lf)], o2, _, _, _, _, rfl, by simp, ho2, by simp [hl], fun j c y hj hy => ?_⟩
        by_cases hjl : j < cols.length
        · rw [List.getElem?_append_left hjl] at hj
          exact hcol j c y hj hy
        · rw [List.getElem?_append_right (by omega)] at hj
          have hji : j = i := by
            have := (List.getElem?_eq_some_iff.mp hj).1
            simp at this
            omega
          subst hji
          rw [hl, Nat.sub_self] at hj
          cases hj
          rw [hz] at hy
          cases hy
          refine ⟨by rw [List.length_set]; exact h5, by rw [sum_set hge]; omega, fun y hy => ?_⟩
          rcases List.mem_or_eq_of_mem_set hy with h | rfl
          · exact h9 y h
          · have := h9 m hm1
            omega
  · subst e1 e2
    rw [List.length_map] at hl
    refine sj_frz 3 0 rfl rfl ?_
    have hcl2 : ∀ c ∈ cols, (c.length : Int) = g := fun c hc' => by
      obtain ⟨j, hj⟩ := List.mem_iff_getElem?.mp hc'
      have hjl := (List.getElem?_eq_some_iff.mp hj).1
      have hjc : cs[j]? = some cs[j] := by simp [show j < cs.length by omega]
      exact (hcol j c _ hj hjc).1
    wtm_at "sl"
    refine ej_cp [("_law_k", 7)] cf (by kernel_rfl) ?_
    wtm_at "sl"
    refine ⟨g, rfl, ⟨by omega, by omega⟩, ?_⟩
    refine lcj_map (fun d => .tup ((colRow cols d.val.toNat).map .int)) [7] (by decide) (by rw [rngD_len]; omega) (fun x hx Y hY => ?_) ?_
    · obtain ⟨k, rfl, hk⟩ := rng_mem hx
      have cf1 := cf.blk hY
      wtm_at "sl"
      refine ⟨rfl, fun Y2 hY2 => ?_⟩
      have cf2 := cf.blk hY2
      wtm_at "sl"
      refine ej_cp [("_law_column", 5)] cf2 (by kernel_rfl) ?_
      wtm_at "sl"
      refine lcj_map (fun c => match c with
        | .lst zs => .int ((zs.map D.val).getD k 0)
        | _ => .non) [5] (by decide) (by rw [List.length_map]; omega) (fun c hc' Y3 hY3 => ?_) ?_
      · obtain ⟨ci, hci, rfl⟩ := List.mem_map.mp hc'
        have hcg := hcl2 ci hci
        have cf3 := cf2.blk hY3
        wtm_at "sl"
        refine ⟨rfl, fun Y4 hY4 => ?_⟩
        have cf4 := cf2.blk hY4
        have hkc : k < ci.length := by omega
        wtm_at "sl"
        refine id_lst (atI_nat (j := k) (by rw [List.getElem?_map, List.getElem?_eq_getElem hkc]; rfl)) ?_
        refine ⟨?_, rfl⟩
        simp [val_int, List.getD, hkc]
        rfl
      · wtm_at "sl"
        refine cd_tuple_lst ?_
        refine ⟨?_, rfl⟩
        simp [colRow, D.val, Function.comp_def, val_int]
    · have e3 : ((rngD 0 g.toNat).map fun d => D.tup ((colRow cols d.val.toNat).map .int)) = (List.range g.toNat).map fun (k : Nat) => D.tup ((colRow cols k).map .int) := by
        simp [rngD, D.val, Function.comp_def]
      rw [e3]
      exact ⟨_, List.Sublist.refl _, o', rfl, hq cols o' (by omega) hcol ho'⟩

end
end SL

set_option maxHeartbeats 2000000
namespace SL
open PySem PySem.Spec PyProof.Rows L2 Evl
local macro_rules | `(tactic| wtm_at "sl e") => `(tactic| first
  | ((with_reducible show EJ _ (Expr.Name _ _) _ _ _ _); first | ((with_reducible refine' ej_nm ?h0 ?h1 ?h2 ?h3 ?h4 ?h5 ?_); (case h0 => with_reducible assumption); (case h1 => with_reducible assumption); (case h2 => kernel_rfl); (case h3 => kernel_rfl); (case h4 => rfl); (case h5 => kernel_rfl)) | ((with_reducible refine' ej_cn ?h0 ?h1 ?h2 ?_); (case h0 => with_reducible assumption); (case h1 => with_reducible assumption); (case h2 => kernel_rfl)) | ((with_reducible refine' ej_ty ?h0 ?h1 ?h2 ?_); (case h0 => with_reducible assumption); (case h1 => with_reducible assumption); (case h2 => kernel_rfl)))
  | ((with_reducible show EJ _ (Expr.Constant (Const.int _) _ _) _ _ _ _); refine ej_int ?_)
  | ((with_reducible show EJ _ (Expr.Constant (Const.str _) _ _) _ _ _ _); refine ej_str ?_)
  | ((with_reducible show EJ _ (Expr.Constant (Const.bool _) _ _) _ _ _ _); refine ej_bl ?_)
  | ((with_reducible show EJ _ (Expr.Constant Const.none _ _) _ _ _ _); refine ej_non ?_)
  | ((with_reducible show EJ _ (Expr.BinOp _ _ _ _) _ _ _ _); refine ej_op ?_)
  | ((with_reducible show EJ _ (Expr.UnaryOp UnaryOp.Not _ _) _ _ _ _); refine ej_not ?_)
  | ((with_reducible show EJ _ (Expr.UnaryOp _ _ _) _ _ _ _); refine ej_un ?_)
  | ((with_reducible show EJ _ (Expr.Tuple _ _ _) _ _ _ _); refine ej_tup ?_)
  | ((with_reducible show EJ _ (Expr.BoolOp _ [_] _) _ _ _ _); refine ej_one ?_)
  | ((with_reducible show EJ _ (Expr.BoolOp BoolOp.And _ _) _ _ _ _); refine ej_and ?_)
  | ((with_reducible show EJ _ (Expr.BoolOp BoolOp.Or _ _) _ _ _ _); refine ej_or ?_)
  | ((with_reducible show EJ _ (Expr.IfExp _ _ _ _) _ _ _ _); refine ej_if ?_)
  | ((with_reducible show EJ _ (Expr.Compare _ [_] _ _) _ _ _ _); (with_reducible refine' ej_cmp ?_ ?h1); (case h1 => first | exact nomark _ | rfl))
  | ((with_reducible show EJ _ (Expr.Compare _ [_, _] _ _) _ _ _ _); (with_reducible refine' ej_chain ?_ ?h1); (case h1 => rfl))
  | ((with_reducible show EJ _ (Expr.Subscript _ (Expr.Slice _ _ _ _) _) _ _ _ _); refine ej_slice ?_)
  | ((with_reducible show EJ _ (Expr.Subscript _ _ _) _ _ _ _); (with_reducible refine' ej_ix ?_ ?h1); (case h1 => intro _ _; rfl))
  | ((with_reducible show EJ _ (Expr.Call (Expr.Name (Str.ofString "list") _) [Expr.Call (Expr.Name (Str.ofString "range") _) [_] [] _] [] _) _ _ _ _); (with_reducible refine' ej_listRg ?h0 ?h1 ?h2 ?h3 ?h4 ?_ ?h5 ?h6); (case h0 => with_reducible assumption); (case h1 => with_reducible assumption); (case h2 => with_reducible assumption); (case h3 => kernel_rfl); (case h4 => kernel_rfl); (case h5 => rfl); (case h6 => rfl))
  | ((with_reducible show EJ _ (Expr.Call (Expr.Name _ _) (_ :: _) [] _) _ _ _ _); first | ((with_reducible refine' ej_cB ?h0 ?h1 ?h2 ?_ ?h3 ?h4); (case h0 => with_reducible assumption); (case h1 => with_reducible assumption); (case h2 => kernel_rfl); (case h3 => rfl); (case h4 => rfl)) | ((with_reducible refine' ej_cT ?h0 ?h1 ?h2 ?_ ?h3 ?h4); (case h0 => with_reducible assumption); (case h1 => with_reducible assumption); (case h2 => kernel_rfl); (case h3 => rfl); (case h4 => rfl)) | ((with_reducible refine' ej_fn ?h0 ?h1 ?h2 ?h3 ?h4 ?_ ?h5 ?h6); (case h0 => with_reducible assumption); (case h1 => with_reducible assumption); (case h2 => kernel_rfl); (case h3 => kernel_rfl); (case h4 => kernel_rfl); (case h5 => rfl); (case h6 => rfl)) | ((with_reducible refine' ej_mk ?h0 ?h1 ?h2 ?h3 ?h4 ?_ ?h5 ?h6); (case h0 => with_reducible assumption); (case h1 => with_reducible assumption); (case h2 => kernel_rfl); (case h3 => kernel_rfl); (case h4 => kernel_rfl); (case h5 => rfl); (case h6 => rfl))))
local macro_rules | `(tactic| wtm_at "sl f") => `(tactic| first
  | ((with_reducible show EJ _ (Expr.Attribute _ _ _) _ _ _ _); (with_reducible refine' ej_fl ?h0 ?h1 ?h2 ?_ ?h3); (case h0 => with_reducible assumption); (case h1 => with_reducible assumption); (case h2 => with_reducible assumption); (case h3 => rfl))
  | ((with_reducible show SJ _ (Stmt.Assign [Expr.Attribute _ _ _] _ _ :: _) _ _ _); (with_reducible refine' sj_cons (s1_fl ?h0 ?h1 ?h2 ?_ ?h3)); (case h0 => with_reducible assumption); (case h1 => with_reducible assumption); (case h2 => with_reducible assumption); (case h3 => rfl))
  | ((with_reducible show EJ _ (Expr.Call (Expr.Attribute _ _ _) (_ :: _) [] _) _ _ _ _); (with_reducible refine' ej_mt ?h0 ?h1 ?h2 ?_ ?h3 ?h4 ?h5); (case h0 => with_reducible assumption); (case h1 => with_reducible assumption); (case h2 => kernel_rfl); (case h3 => rfl); (case h4 => rfl); (case h5 => rfl))
  | ((with_reducible show EJ _ (Expr.Call (Expr.Attribute _ _ _) [] [] _) _ _ _ _); (with_reducible refine' ej_mt0 ?h0 ?h1 ?h2 ?_ ?h3); (case h0 => with_reducible assumption); (case h1 => with_reducible assumption); (case h2 => kernel_rfl); (case h3 => rfl)))
local macro_rules | `(tactic| wtm_at "sl h") => `(tactic| first
  | ((with_reducible show ∃ d, FldD (D.ins _ _) _ _ d _ ∧ _); refine ⟨_, ⟨_, rfl, .inl rfl⟩, ?_⟩)
  | ((with_reducible show InsAt (D.ins _ _) _ _ _ ∧ _); refine ⟨⟨_, rfl, .inl rfl⟩, ?_⟩))
local macro_rules | `(tactic| wtm_at "sl b") => `(tactic| first
  | ((with_reducible show EJ _ (Expr.Call (Expr.Attribute _ (Str.ofString "append") _) (_ :: _) [] _) _ _ _ _); (with_reducible refine' ej_bm PySem.F.plainAttrs_list PySem.F.slot_list_append PySem.F.type_list_append ?_ ?h1 ?h2 ?h3 ?h4 ?h5); (case h1 => rfl); (case h2 => rfl); (case h3 => rfl); (case h4 => rfl); (case h5 => rfl))
  | ((with_reducible show EJ _ (Expr.Call (Expr.Attribute _ (Str.ofString "extend") _) (_ :: _) [] _) _ _ _ _); (with_reducible refine' ej_bm PySem.F.plainAttrs_list PySem.F.slot_list_extend PySem.F.type_list_extend ?_ ?h1 ?h2 ?h3 ?h4 ?h5); (case h1 => rfl); (case h2 => rfl); (case h3 => rfl); (case h4 => rfl); (case h5 => rfl))
  | ((with_reducible show EJ _ (Expr.Call (Expr.Attribute _ (Str.ofString "pop") _) (_ :: _) [] _) _ _ _ _); (with_reducible refine' ej_bm PySem.F.plainAttrs_list PySem.F.slot_list_pop PySem.F.type_list_pop ?_ ?h1 ?h2 ?h3 ?h4 ?h5); (case h1 => rfl); (case h2 => rfl); (case h3 => rfl); (case h4 => rfl); (case h5 => rfl))
  | ((with_reducible show EJ _ (Expr.Call (Expr.Attribute _ (Str.ofString "pop") _) [] [] _) _ _ _ _); (with_reducible refine' ej_bm0 PySem.F.plainAttrs_list PySem.F.slot_list_pop PySem.F.type_list_pop ?_ ?h1 ?h2); (case h1 => rfl); (case h2 => rfl))
  | ((with_reducible show EJ _ (Expr.Call (Expr.Attribute _ (Str.ofString "reverse") _) [] [] _) _ _ _ _); (with_reducible refine' ej_bm0 PySem.F.plainAttrs_list PySem.F.slot_list_reverse PySem.F.type_list_reverse ?_ ?h1 ?h2); (case h1 => rfl); (case h2 => rfl))
  | ((with_reducible show EJ _ (Expr.Call (Expr.Attribute _ (Str.ofString "clear") _) [] [] _) _ _ _ _); (with_reducible refine' ej_bm0 PySem.F.plainAttrs_list PySem.F.slot_list_clear PySem.F.type_list_clear ?_ ?h1 ?h2); (case h1 => rfl); (case h2 => rfl))
  | ((with_reducible show EJ _ (Expr.Call (Expr.Attribute _ (Str.ofString "index") _) (_ :: _) [] _) _ _ _ _); (with_reducible refine' ej_bm PySem.F.plainAttrs_list PySem.F.slot_list_index PySem.F.type_list_index ?_ ?h1 ?h2 ?h3 ?h4 ?h5); (case h1 => rfl); (case h2 => rfl); (case h3 => rfl); (case h4 => rfl); (case h5 => rfl))
  | ((with_reducible show HasTy _ _ (D.raw _) _ ∧ _); first | refine ⟨ty_own 0 rfl, ?_⟩ | refine ⟨ty_own 1 rfl, ?_⟩ | refine ⟨ty_own 2 rfl, ?_⟩)
  | ((with_reducible show HasTy _ _ (D.lst _) _ ∧ _); refine ⟨ty_lst, ?_⟩))
local macro_rules | `(tactic| wtm_at "sl a") => `(tactic| first
  | ((with_reducible show AJ _ [] _ _ _ _); refine aj_nil ?_)
  | ((with_reducible show AJ _ (_ :: _) _ _ _ _); (with_reducible refine' aj_cons ?_ ?h1); (case h1 => rfl)))
local macro_rules | `(tactic| wtm_at "sl t") => `(tactic| first
  | ((with_reducible show TJ _ (Expr.UnaryOp UnaryOp.Not _ _) _ _ _ _); refine tj_not ?_)
  | ((with_reducible show TJ _ (Expr.BoolOp _ _ _) _ _ _ _); refine tjs_of ?_)
  | ((with_reducible show TJ _ (Expr.Compare _ [_] _ _) _ _ _ _); (with_reducible refine' tj_cmp ?_ ?h1); (case h1 => first | exact nomark _ | rfl))
  | ((with_reducible show TJ _ (Expr.Compare _ [_, _] _ _) _ _ _ _); (with_reducible refine' tj_chain ?_ ?h1); (case h1 => rfl))
  | ((with_reducible show TJ _ (_) _ _ _ _); (with_reducible refine' tj_b ?_ ?h1); (case h1 => intro _; rfl))
  | ((with_reducible show TJs _ BoolOp.And (_ :: _ :: _) _ _ _ _ _); refine tjs_and ?_)
  | ((with_reducible show TJs _ BoolOp.Or (_ :: _ :: _) _ _ _ _ _); refine tjs_or ?_)
  | ((with_reducible show TJs _ _ [_] _ _ _ _ _); refine tjs_one ?_))
local macro_rules | `(tactic| wtm_at "sl s") => `(tactic| first
  | ((with_reducible show SJ _ [] _ _ _); refine sj_nil ?_)
  | ((with_reducible show SJ _ (Stmt.Return (some _) _ :: _) _ _ _); refine sj_cons (s1_ret ?_))
  | ((with_reducible show SJ _ (Stmt.Return none _ :: _) _ _ _); refine sj_cons (s1_retN ?_))
  | ((with_reducible show SJ _ (Stmt.If _ _ _ _ :: _) _ _ _); refine sj_cons (s1_if ?_))
  | ((with_reducible show SJ _ (Stmt.Pass _ :: _) _ _ _); refine sj_cons (s1_pass ?_))
  | ((with_reducible show SJ _ (Stmt.Break _ :: _) _ _ _); refine sj_cons (s1_break ?_))
  | ((with_reducible show SJ _ (Stmt.Continue _ :: _) _ _ _); refine sj_cons (s1_cont ?_))
  | ((with_reducible show SJ _ (Stmt.Assign [Expr.Subscript _ _ _] _ _ :: _) _ _ _); (with_reducible refine' sj_cons (s1_setI ?_ ?h1 ?h2 ?h3 ?h4)); (case h1 => intro _; rfl); (case h2 => rfl); (case h3 => rfl); (case h4 => rfl))
  | ((with_reducible show SJ _ (Stmt.AugAssign (Expr.Subscript _ _ _) _ _ _ :: _) _ _ _); (with_reducible refine' sj_cons (s1_augI ?_ ?h1)); (case h1 => intros; rfl))
  | ((with_reducible show SJ _ (Stmt.Expr _ _ :: _) _ _ _); refine sj_cons (s1_expr ?_))
  | ((with_reducible show SJ _ (Stmt.Raise _ _ _ :: _) _ _ _); (with_reducible refine' sj_cons (s1_rs ?h0 ?h1 ?h2 ?h3 ?h4 ?_ ?h5 ?h6)); (case h0 => with_reducible assumption); (case h1 => with_reducible assumption); (case h2 => kernel_rfl); (case h3 => kernel_rfl); (case h4 => kernel_rfl); (case h5 => rfl); (case h6 => rfl))
  | ((with_reducible show SJ _ (Stmt.Assign [Expr.Name _ _] _ _ :: _) _ _ _); (with_reducible refine' sj_cons (s1_nm ?h0 ?h1 ?h2 ?h3 ?h4 ?_ ?h5)); (case h0 => with_reducible assumption); (case h1 => with_reducible assumption); (case h2 => kernel_rfl); (case h3 => kernel_rfl); (case h4 => kernel_rfl); (case h5 => rfl))
  | ((with_reducible show SJ _ (Stmt.AugAssign (Expr.Name _ _) _ _ _ :: _) _ _ _); (with_reducible refine' sj_cons (s1_ag ?h0 ?h1 ?h2 ?h3 ?h4 ?h5 ?_)); (case h0 => with_reducible assumption); (case h1 => with_reducible assumption); (case h2 => kernel_rfl); (case h3 => kernel_rfl); (case h4 => kernel_rfl); (case h5 => rfl))
  | ((with_reducible show SJ _ (Stmt.Assign [Expr.Tuple _ _ _] (Expr.Call _ _ _ _) _ :: _) _ _ _); (with_reducible refine' sj_cons (s1_asg ?_ ?h1 ?h2 ?h3)); (case h1 => rfl); (case h2 => rfl); (case h3 => rfl))
  | ((with_reducible show SJ _ (Stmt.Assign [Expr.Tuple [Expr.Name _ _, Expr.Name _ _] _ _] (Expr.Tuple [_, _] _ _) _ :: _) _ _ _); first | ((with_reducible refine' sj_cons (s1_prs ?h0 ?h1 ?h2 ?h3 ?h4 ?h5 ?h6 ?h7 ?h8 ?_ ?h9)); (case h0 => with_reducible assumption); (case h1 => with_reducible assumption); (case h2 => with_reducible assumption); (case h3 => kernel_rfl); (case h4 => kernel_rfl); (case h5 => kernel_rfl); (case h6 => kernel_rfl!); (case h7 => kernel_rfl!); (case h8 => kernel_rfl!); (case h9 => rfl)) | ((with_reducible refine' sj_cons (s1_ast ?h0 ?h1 ?_ ?h2 ?h3)); (case h0 => with_reducible assumption); (case h1 => kernel_rfl!); (case h2 => rfl); (case h3 => rfl)))
  | ((with_reducible show SJ _ (Stmt.Assign [Expr.Tuple _ _ _] (Expr.Tuple _ _ _) _ :: _) _ _ _); (with_reducible refine' sj_cons (s1_ast ?h0 ?h1 ?_ ?h2 ?h3)); (case h0 => with_reducible assumption); (case h1 => kernel_rfl!); (case h2 => rfl); (case h3 => rfl)))
local macro_rules | `(tactic| wtm_at "sl g") => `(tactic| first
  | ((with_reducible show GJ _ (Expr.Name _ _) _ _ _ _ _); (with_reducible refine' gj_nm ?h0 ?h1 ?h2 ?h3 ?h4 ?_); (case h0 => with_reducible assumption); (case h1 => with_reducible assumption); (case h2 => kernel_rfl); (case h3 => kernel_rfl); (case h4 => kernel_rfl))
  | ((with_reducible show GJ _ (Expr.Tuple [Expr.Name _ _, Expr.Name _ _] _ _) _ _ _ _ _); (with_reducible refine' gj_tp2 ?h0 ?h1 ?h2 ?h3 ?h4 ?h5 ?h6 ?h7 ?h8 ?_); (case h0 => with_reducible assumption); (case h1 => with_reducible assumption); (case h2 => with_reducible assumption); (case h3 => kernel_rfl); (case h4 => kernel_rfl); (case h5 => kernel_rfl); (case h6 => kernel_rfl); (case h7 => kernel_rfl); (case h8 => kernel_rfl))
  | ((with_reducible show GJ _ (Expr.Tuple [Expr.Name _ _, Expr.Name _ _, Expr.Name _ _] _ _) _ _ _ _ _); (with_reducible refine' gj_tp3 ?h0 ?h1 ?h2 ?h3 ?h4 ?h5 ?h6 ?h7 ?h8 ?h9 ?i0 ?i1 ?i2 ?_); (case h0 => with_reducible assumption); (case h1 => with_reducible assumption); (case h2 => with_reducible assumption); (case h3 => with_reducible assumption); (case h4 => kernel_rfl); (case h5 => kernel_rfl); (case h6 => kernel_rfl); (case h7 => kernel_rfl); (case h8 => kernel_rfl); (case h9 => kernel_rfl); (case i0 => kernel_rfl); (case i1 => kernel_rfl); (case i2 => kernel_rfl))
  | ((with_reducible show GJ _ (Expr.Tuple _ _ _) _ _ _ _ _); (with_reducible refine' gj_tp ?h0 ?_ ?h1 ?h2 ?h3); (case h0 => with_reducible assumption); (case h1 => rfl); (case h2 => rfl); (case h3 => rfl))
  | ((with_reducible show GsJ _ (_ :: _) _ _ _ _ _); (with_reducible refine' gsj_cons ?_ ?h1); (case h1 => rfl))
  | ((with_reducible show GsJ _ [] _ _ _ _ _); refine gsj_nil ?_))
local macro_rules | `(tactic| wtm_at "sl i") => `(tactic| first
  | ((with_reducible show IJ _ _ (Expr.Name _ _) _ _ _ _); (with_reducible refine' ij_nm ?h0 ?h1 ?h2 ?h3 ?h4 ?h5 ?h6 ?_); (case h0 => with_reducible assumption); (case h1 => with_reducible assumption); (case h2 => kernel_rfl); (case h3 => kernel_rfl); (case h4 => rfl); (case h5 => kernel_rfl); (case h6 => first | assumption | exact .inl rfl | exact .inr (.inl rfl) | exact .inr (.inr rfl)))
  | ((with_reducible show IJ _ _ (Expr.Call (Expr.Name (Str.ofString "enumerate") _) [_] [] _) _ _ _ _); (with_reducible refine' ij_en ?h0 ?h1 ?h2 ?_ ?h3); (case h0 => with_reducible assumption); (case h1 => with_reducible assumption); (case h2 => kernel_rfl); (case h3 => rfl))
  | ((with_reducible show IJ _ _ (Expr.Call (Expr.Name (Str.ofString "range") _) [_] [] _) _ _ _ _); (with_reducible refine' ij_r1 ?h0 ?h1 ?h2 ?_ ?h3); (case h0 => with_reducible assumption); (case h1 => with_reducible assumption); (case h2 => kernel_rfl); (case h3 => rfl))
  | ((with_reducible show IJ _ _ (Expr.Call (Expr.Name (Str.ofString "range") _) [_, _] [] _) _ _ _ _); (with_reducible refine' ij_r2 ?h0 ?h1 ?h2 ?_ ?h3 ?h4); (case h0 => with_reducible assumption); (case h1 => with_reducible assumption); (case h2 => kernel_rfl); (case h3 => rfl); (case h4 => rfl))
  | ((with_reducible show IJ _ _ (Expr.Call (Expr.Name (Str.ofString "zip") _) [_, _] [] _) _ _ _ _); (with_reducible refine' ij_zp ?h0 ?h1 ?h2 ?_ ?h3 ?h4); (case h0 => with_reducible assumption); (case h1 => with_reducible assumption); (case h2 => kernel_rfl); (case h3 => rfl); (case h4 => rfl))
  | ((with_reducible show IJ _ _ (Expr.Subscript _ _ _) _ _ _ _); refine ij_list ?_)
  | ((with_reducible show IJ _ _ (Expr.BinOp _ _ _ _) _ _ _ _); refine ij_list ?_)
  | ((with_reducible show IJ _ _ (Expr.Call _ _ _ _) _ _ _ _); refine ij_list ?_))
local macro_rules | `(tactic| wtm_at "sl o") => `(tactic| first
  | ((with_reducible show OpD _ (binaryOp Operator.Add) (D.int _) (D.int _) _ _); refine od_add ?_)
  | ((with_reducible show OpD _ (inplaceOp Operator.Add) (D.int _) (D.int _) _ _); refine oi_add ?_)
  | ((with_reducible show OpD _ (binaryOp Operator.Sub) (D.int _) (D.int _) _ _); refine od_sub ?_)
  | ((with_reducible show OpD _ (inplaceOp Operator.Sub) (D.int _) (D.int _) _ _); refine oi_sub ?_)
  | ((with_reducible show OpD _ (binaryOp Operator.Mult) (D.int _) (D.int _) _ _); refine od_mulC (by first | exact .inl ⟨by omega, by omega⟩ | exact .inr ⟨by omega, by omega⟩) ?_)
  | ((with_reducible show OpD _ (binaryOp Operator.Pow) (D.int 10) (D.int 9) _ _); refine od_p9 ?_)
  | ((with_reducible show OpD _ (binaryOp Operator.Pow) (D.int 10) (D.int 12) _ _); refine od_p12 ?_)
  | ((with_reducible show OpD _ (binaryOp Operator.Pow) (D.int 10) (D.int 18) _ _); refine od_p18 ?_)
  | ((with_reducible show OpD _ (binaryOp Operator.Pow) (D.int 10) (D.int 20) _ _); refine od_p20 ?_)
  | ((with_reducible show OpD _ (compareOp CmpOp.Lt) (D.int _) (D.int _) _ _); refine od_lt ?_)
  | ((with_reducible show OpD _ (compareOp CmpOp.LtE) (D.int _) (D.int _) _ _); refine od_le ?_)
  | ((with_reducible show OpD _ (compareOp CmpOp.Gt) (D.int _) (D.int _) _ _); refine od_gt ?_)
  | ((with_reducible show OpD _ (compareOp CmpOp.GtE) (D.int _) (D.int _) _ _); refine od_ge ?_)
  | ((with_reducible show OpD _ (compareOp CmpOp.Eq) (D.int _) (D.int _) _ _); refine od_eqI ?_)
  | ((with_reducible show OpD _ (compareOp CmpOp.NotEq) (D.int _) (D.int _) _ _); refine od_neI ?_)
  | ((with_reducible show OpD _ (compareOp CmpOp.Eq) (D.str _) (D.str _) _ _); refine od_eqS ?_)
  | ((with_reducible show UnD _ _ (D.int _) _ _); refine ud_neg ?_)
  | ((with_reducible show ClD _ (Value.builtin "len") [D.lst _] _ _); refine cd_len_lst ?_)
  | ((with_reducible show ClD _ (Value.builtin "len") [D.tup _] _ _); refine cd_len_tup ?_)
  | ((with_reducible show ClD _ (Value.builtin "len") [D.fz _] _ _); refine cd_len_fz ?_)
  | ((with_reducible show ClD _ (Value.type "int") [D.int _] _ _); refine cd_intI ?_)
  | ((with_reducible show ClD _ (Value.type "int") [D.bl _] _ _); refine cd_intB ?_)
  | ((with_reducible show ClD _ (Value.builtin "isinstance") [_, D.ty _] _ _); (with_reducible refine' cd_isi ?h1 ?h2 ?_); (case h1 => first | assumption | rfl); (case h2 => decide))
  | ((with_reducible show ClD _ (Value.builtin "isinstance") [_, D.tup [D.ty _, D.ty _]] _ _); (with_reducible refine' cd_isi2 ?h1 ?h2 ?h3 ?_); (case h1 => first | assumption | rfl); (case h2 => decide); (case h3 => decide)))
local macro_rules | `(tactic| wtm_at "sl v") => `(tactic| first
  | ((with_reducible show OpD _ (binaryOp Operator.Mod) (D.int _) (D.int _) _ _); refine od_modV (by omega) fun r h0 h1 => ?_)
  | ((with_reducible show OpD _ (binaryOp Operator.FloorDiv) (D.int _) (D.int _) _ _); refine od_div (divOk_le (by omega) (by omega)) ?_))
local macro_rules | `(tactic| wtm_at "sl m") => `(tactic| first
  | ((with_reducible show EJ _ (Expr.List (_ :: _) _) _ _ _ _); refine ej_lst ?_)
  | ((with_reducible show IxD _ (D.raw _) (D.int _) _ _); first | refine id_own 0 rfl rfl ?_ | refine id_own 1 rfl rfl ?_ | refine id_own 2 rfl rfl ?_)
  | ((with_reducible show if true = true then _ else _); refine ite_t ?_)
  | ((with_reducible show if (!false) = true then _ else _); refine ite_nf ?_)
  | ((with_reducible show if (!true) = true then _ else _); refine ite_nt ?_)
  | ((with_reducible show if false = true then _ else _); refine ite_f ?_)
  | ((with_reducible show ∃ k, D.bl _ = D.bl k ∧ _); refine ⟨_, rfl, ?_⟩)
  | ((with_reducible show ∃ i, D.int _ = D.int i ∧ _); refine ⟨_, rfl, ?_⟩)
  | ((with_reducible show OJ _ none _ _ _ _); refine oj_none ?_)
  | ((with_reducible show OJ _ (some _) _ _ _ _); refine oj_some ?_)
  | ((with_reducible show SlD _ (D.lst _) _ _ _ _); refine sd_lst ?_)
  | ((with_reducible show SlD _ (D.fz _) _ _ _ _); refine sd_fz ?_)
  | ((with_reducible show SlD _ (D.tup _) _ _ _ _); refine sd_tup ?_)
  | ((with_reducible show List.length _ ≤ 100000 ∧ _); refine ⟨Nat.le_of_ble_eq_true rfl, ?_⟩))
local macro_rules | `(tactic| wtm_at "sl") => `(tactic| repeat (first | wtm_at "sl e" | wtm_at "sl a" | wtm_at "sl b" | wtm_at "sl f" | wtm_at "sl h" | wtm_at "sl o" | wtm_at "sl t" | wtm_at "sl s" | wtm_at "sl m" | wtm_at "sl g" | wtm_at "sl i"))
local macro_rules | `(tactic| wtm_at "slv") => `(tactic| repeat (first | wtm_at "sl e" | wtm_at "sl a" | wtm_at "sl b" | wtm_at "sl f" | wtm_at "sl h" | wtm_at "sl v" | wtm_at "sl o" | wtm_at "sl t" | wtm_at "sl s" | wtm_at "sl m" | wtm_at "sl g" | wtm_at "sl i"))
local macro_rules | `(tactic| wtm_at "sl in") => `(tactic| conv => arg 2; whnf)
local macro_rules | `(tactic| wtm_at "sl r0") => `(tactic| refine ⟨[], List.nil_sublist _, rfl, ?_⟩)
section
variable {X : Cx} {st : Sls} {M : Mem} {Q : DK} {E : EK} {P : Program} {w : World} {K : PySem.W.Frag} {mg : Str → Option Value} {base : Heap} {f : Addr} {fd : FuncData} {d e : D} {es : List D} {lo hi : Int} {i : Int}
/-! ### right splits -/
theorem schedErr_ok {ns : List Int} (hs : d.seq = some (ns.map D.int)) (hl : ns.length ≤ 200) (hge : ∀ z ∈ ns, 2 ≤ z) : schedErr d = none := by
  unfold schedErr
  rw [hs]
  simp only [List.length_map]
  rw [if_neg (by omega)]
  have : (ns.map D.int).findIdx? (fun e => !atLeast e 2) = none := by
    rw [List.findIdx?_eq_none_iff]
    intro x hx
    obtain ⟨z, hz, rfl⟩ := List.mem_map.mp hx
    simp [atLeast, hge z hz]
  rw [this]
  rfl
theorem splitErr_ok {s p : D} {g : Int} {ns cs : List Int} {rows : List D} (hs : s.seq = some ((g :: ns).map D.int)) (hl : (g :: ns).length ≤ 200) (hge : ∀ z ∈ g :: ns, 2 ≤ z) (hg : g ≤ 1000) (hcl : cs.length ≤ 200) (hc : ∀ z ∈ cs, 0 ≤ z)
    (hp : p.seq = some rows) (ht : isTup p = false) (hrl : (rows.length : Int) = g) (hr : ∀ r ∈ rows, ∃ ri : List Int, r = .tup (ri.map .int) ∧ ri.length = cs.length ∧ ∀ z ∈ ri, 0 ≤ z) (hsum : colSums (rowsOf rows) cs.length = cs) : splitErr s (.tup (cs.map .int)) p = none := by
  have h1 : roundsErr s = none := by
    unfold roundsErr
    rw [schedErr_ok hs hl hge, hs]
    rfl
  have h2 : countsOk (.tup (cs.map .int)) = true := by
    simp only [countsOk, List.length_map, Bool.and_eq_true, decide_eq_true_eq]
    refine ⟨hcl, List.all_eq_true.mpr fun x hx => ?_⟩
    obtain ⟨z, hz, rfl⟩ := List.mem_map.mp hx
    simp [atLeast, hc z hz]
  have h3 : rows.findIdx? (fun r => !isGrp r (cs.map D.int).length) = none := by
    rw [List.findIdx?_eq_none_iff]
    intro x hx
    obtain ⟨ri, rfl, e, h⟩ := hr x hx
    have : (ri.map D.int).all (fun e => atLeast e 0) = true := List.all_eq_true.mpr fun y hy => by
      obtain ⟨z, hz, rfl⟩ := List.mem_map.mp hy
      simp [atLeast, h z hz]
    simp [isGrp, e, this]
  unfold splitErr
  rw [h1]
  simp only [h2, if_pos, hs, hp, List.map_cons]
  rw [if_neg (by omega), if_neg (by rw [ht, hrl]; simp), h3]
  simp only
  rw [List.length_map, val_int, if_pos hsum]
theorem sum_even {g : Int} (h : 1 ≤ g) (c : Int) : ((List.range g.toNat).map fun (k : Nat) => c / g + if (k : Int) < c % g then 1 else 0).sum = c := by
  have key : ∀ n : Nat, ((List.range n).map fun (k : Nat) => c / g + if (k : Int) < c % g then (1 : Int) else 0).sum = n * (c / g) + min (n : Int) (c % g) := by
    intro n
    have h0 := Int.emod_nonneg c (show g ≠ 0 by omega)
    induction n with
    | zero => simp; omega
    | succ n ih =>
      rw [List.range_succ, List.map_append, List.sum_append, ih]
      have e : ((n + 1 : Nat) : Int) * (c / g) = n * (c / g) + c / g := by rw [show ((n + 1 : Nat) : Int) = n + 1 by omega, Int.add_mul, Int.one_mul]
      rw [e]
      by_cases hk : (n : Int) < c % g
      · simp [hk]; omega
      · simp [hk]; omega
  rw [key]
  have h1 := Int.emod_lt_of_pos c (show 0 < g by omega)
  have h2 : g * (c / g) + c % g = c := by first | exact Int.mul_ediv_add_emod c g | exact Int.ediv_add_emod' c g | exact Int.ediv_mul_add_emod c g | (rw [Int.emod_def]; omega)
  rw [show ((g.toNat : Nat) : Int) = g by omega]
  have h3 : min g (c % g) = c % g := by omega
  rw [h3]
  omega
theorem even_right {g : Int} (h : 1 ≤ g) {cs : List Int} (hc : ∀ z ∈ cs, 0 ≤ z) :
    colSums (rowsOf ((List.range g.toNat).map fun (k : Nat) => D.tup ((evenRow g cs k).map .int))) cs.length = cs ∧
    ∀ r ∈ (List.range g.toNat).map (fun (k : Nat) => D.tup ((evenRow g cs k).map .int)), ∃ ri : List Int, r = .tup (ri.map .int) ∧ ri.length = cs.length ∧ ∀ z ∈ ri, 0 ≤ z := by
  constructor
  · refine List.ext_getElem? fun j => ?_
    unfold colSums
    rw [List.getElem?_map]
    by_cases hj : j < cs.length
    · rw [List.getElem?_range hj, List.getElem?_eq_getElem hj]
      simp only [Option.map_some, Option.some.injEq]
      have e : ((rowsOf ((List.range g.toNat).map fun (k : Nat) => D.tup ((evenRow g cs k).map .int))).map fun r => r.getD j 0) = (List.range g.toNat).map fun (k : Nat) => cs[j] / g + if (k : Int) < cs[j] % g then 1 else 0 := by
        simp only [rowsOf, List.map_map]
        refine List.map_congr_left fun k hk => ?_
        simp only [Function.comp, val_int]
        simp [evenRow, List.getD, hj]
      rw [e, sum_even h]
    · rw [List.getElem?_eq_none (by simpa using hj), List.getElem?_eq_none (by simpa using hj)]
      rfl
  · intro r hr
    obtain ⟨k, hk, rfl⟩ := List.mem_map.mp hr
    refine ⟨_, rfl, by simp [evenRow], fun z hz => ?_⟩
    obtain ⟨c, hcm, rfl⟩ := List.mem_map.mp hz
    have := Int.ediv_nonneg (hc c hcm) (show 0 ≤ g by omega)
    split <;> omega
theorem cols_right {g : Int} {cs : List Int} {cols : List (List Int)} (hl : cols.length = cs.length) (h : ∀ (i : Nat) (c : List Int) (z : Int), cols[i]? = some c → cs[i]? = some z → (c.length : Int) = g ∧ c.sum = z ∧ ∀ y ∈ c, 0 ≤ y) :
    colSums (rowsOf ((List.range g.toNat).map fun (k : Nat) => D.tup ((colRow cols k).map .int))) cs.length = cs ∧
    ∀ r ∈ (List.range g.toNat).map (fun (k : Nat) => D.tup ((colRow cols k).map .int)), ∃ ri : List Int, r = .tup (ri.map .int) ∧ ri.length = cs.length ∧ ∀ z ∈ ri, 0 ≤ z := by
  constructor
  · refine List.ext_getElem? fun j => ?_
    unfold colSums
    rw [List.getElem?_map]
    by_cases hj : j < cs.length
    · rw [List.getElem?_range hj, List.getElem?_eq_getElem hj]
      simp only [Option.map_some, Option.some.injEq]
      have hjc : cols[j]? = some cols[j] := by simp [show j < cols.length by omega]
      obtain ⟨h1, h2, _⟩ := h j cols[j] cs[j] hjc (by simp [hj])
      have e : ((rowsOf ((List.range g.toNat).map fun (k : Nat) => D.tup ((colRow cols k).map .int))).map fun r => r.getD j 0) = (List.range g.toNat).map fun (k : Nat) => cols[j].getD k 0 := by
        simp only [rowsOf, List.map_map]
        refine List.map_congr_left fun k hk => ?_
        simp only [Function.comp, val_int]
        simp [colRow, List.getD, show j < cols.length by omega]
      rw [e]
      have e2 : ((List.range g.toNat).map fun (k : Nat) => cols[j].getD k 0) = cols[j] := by
        refine List.ext_getElem? fun k => ?_
        rw [List.getElem?_map]
        by_cases hk : k < g.toNat
        · rw [List.getElem?_range hk, List.getElem?_eq_getElem (by omega)]
          simp [List.getD, show k < cols[j].length by omega]
        · rw [List.getElem?_eq_none (by simpa using hk), List.getElem?_eq_none (by omega)]
          rfl
      rw [e2, h2]
    · rw [List.getElem?_eq_none (by simpa using hj), List.getElem?_eq_none (by simpa using hj)]
      rfl
  · intro r hr
    obtain ⟨k, hk, rfl⟩ := List.mem_map.mp hr
    refine ⟨_, rfl, by simp [colRow, hl], fun z hz => ?_⟩
    obtain ⟨c, hcm, rfl⟩ := List.mem_map.mp hz
    obtain ⟨j, hj⟩ := List.mem_iff_getElem?.mp hcm
    have hjl := (List.getElem?_eq_some_iff.mp hj).1
    obtain ⟨h1, _, h3⟩ := h j c cs[j] hj (by simp [show j < cs.length by omega])
    have hkl : k < c.length := by simp at hk; omega
    simp only [List.getD, List.getElem?_eq_getElem hkl, Option.getD_some]
    exact h3 _ (List.getElem_mem hkl)

end
end SL

set_option maxHeartbeats 2000000
namespace SL
open PySem PySem.Spec PyProof.Rows L2 Evl
local macro_rules | `(tactic| wtm_at "sl e") => `(tactic| first
  | ((with_reducible show EJ _ (Expr.Name _ _) _ _ _ _); first | ((with_reducible refine' ej_nm ?h0 ?h1 ?h2 ?h3 ?h4 ?h5 ?_); (case h0 => with_reducible assumption); (case h1 => with_reducible assumption); (case h2 => kernel_rfl); (case h3 => kernel_rfl); (case h4 => rfl); (case h5 => kernel_rfl)) | ((with_reducible refine' ej_cn ?h0 ?h1 ?h2 ?_); (case h0 => with_reducible assumption); (case h1 => with_reducible assumption); (case h2 => kernel_rfl)) | ((with_reducible refine' ej_ty ?h0 ?h1 ?h2 ?_); (case h0 => with_reducible assumption); (case h1 => with_reducible assumption); (case h2 => kernel_rfl)))
  | ((with_reducible show EJ _ (Expr.Constant (Const.int _) _ _) _ _ _ _); refine ej_int ?_)
  | ((with_reducible show EJ _ (Expr.Constant (Const.str _) _ _) _ _ _ _); refine ej_str ?_)
  | ((with_reducible show EJ _ (Expr.Constant (Const.bool _) _ _) _ _ _ _); refine ej_bl ?_)
  | ((with_reducible show EJ _ (Expr.Constant Const.none _ _) _ _ _ _); refine ej_non ?_)
  | ((with_reducible show EJ _ (Expr.BinOp _ _ _ _) _ _ _ _); refine ej_op ?_)
  | ((with_reducible show EJ _ (Expr.UnaryOp UnaryOp.Not _ _) _ _ _ _); refine ej_not ?_)
  | ((with_reducible show EJ _ (Expr.UnaryOp _ _ _) _ _ _ _); refine ej_un ?_)
  | ((with_reducible show EJ _ (Expr.Tuple _ _ _) _ _ _ _); refine ej_tup ?_)
  | ((with_reducible show EJ _ (Expr.BoolOp _ [_] _) _ _ _ _); refine ej_one ?_)
  | ((with_reducible show EJ _ (Expr.BoolOp BoolOp.And _ _) _ _ _ _); refine ej_and ?_)
  | ((with_reducible show EJ _ (Expr.BoolOp BoolOp.Or _ _) _ _ _ _); refine ej_or ?_)
  | ((with_reducible show EJ _ (Expr.IfExp _ _ _ _) _ _ _ _); refine ej_if ?_)
  | ((with_reducible show EJ _ (Expr.Compare _ [_] _ _) _ _ _ _); (with_reducible refine' ej_cmp ?_ ?h1); (case h1 => first | exact nomark _ | rfl))
  | ((with_reducible show EJ _ (Expr.Compare _ [_, _] _ _) _ _ _ _); (with_reducible refine' ej_chain ?_ ?h1); (case h1 => rfl))
  | ((with_reducible show EJ _ (Expr.Subscript _ (Expr.Slice _ _ _ _) _) _ _ _ _); refine ej_slice ?_)
  | ((with_reducible show EJ _ (Expr.Subscript _ _ _) _ _ _ _); (with_reducible refine' ej_ix ?_ ?h1); (case h1 => intro _ _; rfl))
  | ((with_reducible show EJ _ (Expr.Call (Expr.Name (Str.ofString "list") _) [Expr.Call (Expr.Name (Str.ofString "range") _) [_] [] _] [] _) _ _ _ _); (with_reducible refine' ej_listRg ?h0 ?h1 ?h2 ?h3 ?h4 ?_ ?h5 ?h6); (case h0 => with_reducible assumption); (case h1 => with_reducible assumption); (case h2 => with_reducible assumption); (case h3 => kernel_rfl); (case h4 => kernel_rfl); (case h5 => rfl); (case h6 => rfl))
  | ((with_reducible show EJ _ (Expr.Call (Expr.Name _ _) (_ :: _) [] _) _ _ _ _); first | ((with_reducible refine' ej_cB ?h0 ?h1 ?h2 ?_ ?h3 ?h4); (case h0 => with_reducible assumption); (case h1 => with_reducible assumption); (case h2 => kernel_rfl); (case h3 => rfl); (case h4 => rfl)) | ((with_reducible refine' ej_cT ?h0 ?h1 ?h2 ?_ ?h3 ?h4); (case h0 => with_reducible assumption); (case h1 => with_reducible assumption); (case h2 => kernel_rfl); (case h3 => rfl); (case h4 => rfl)) | ((with_reducible refine' ej_fn ?h0 ?h1 ?h2 ?h3 ?h4 ?_ ?h5 ?h6); (case h0 => with_reducible assumption); (case h1 => with_reducible assumption); (case h2 => kernel_rfl); (case h3 => kernel_rfl); (case h4 => kernel_rfl); (case h5 => rfl); (case h6 => rfl)) | ((with_reducible refine' ej_mk ?h0 ?h1 ?h2 ?h3 ?h4 ?_ ?h5 ?h6); (case h0 => with_reducible assumption); (case h1 => with_reducible assumption); (case h2 => kernel_rfl); (case h3 => kernel_rfl); (case h4 => kernel_rfl); (case h5 => rfl); (case h6 => rfl))))
local macro_rules | `(tactic| wtm_at "sl f") => `(tactic| first
  | ((with_reducible show EJ _ (Expr.Attribute _ _ _) _ _ _ _); (with_reducible refine' ej_fl ?h0 ?h1 ?h2 ?_ ?h3); (case h0 => with_reducible assumption); (case h1 => with_reducible assumption); (case h2 => with_reducible assumption); (case h3 => rfl))
  | ((with_reducible show SJ _ (Stmt.Assign [Expr.Attribute _ _ _] _ _ :: _) _ _ _); (with_reducible refine' sj_cons (s1_fl ?h0 ?h1 ?h2 ?_ ?h3)); (case h0 => with_reducible assumption); (case h1 => with_reducible assumption); (case h2 => with_reducible assumption); (case h3 => rfl))
  | ((with_reducible show EJ _ (Expr.Call (Expr.Attribute _ _ _) (_ :: _) [] _) _ _ _ _); (with_reducible refine' ej_mt ?h0 ?h1 ?h2 ?_ ?h3 ?h4 ?h5); (case h0 => with_reducible assumption); (case h1 => with_reducible assumption); (case h2 => kernel_rfl); (case h3 => rfl); (case h4 => rfl); (case h5 => rfl))
  | ((with_reducible show EJ _ (Expr.Call (Expr.Attribute _ _ _) [] [] _) _ _ _ _); (with_reducible refine' ej_mt0 ?h0 ?h1 ?h2 ?_ ?h3); (case h0 => with_reducible assumption); (case h1 => with_reducible assumption); (case h2 => kernel_rfl); (case h3 => rfl)))
local macro_rules | `(tactic| wtm_at "sl h") => `(tactic| first
  | ((with_reducible show ∃ d, FldD (D.ins _ _) _ _ d _ ∧ _); refine ⟨_, ⟨_, rfl, .inl rfl⟩, ?_⟩)
  | ((with_reducible show InsAt (D.ins _ _) _ _ _ ∧ _); refine ⟨⟨_, rfl, .inl rfl⟩, ?_⟩))
local macro_rules | `(tactic| wtm_at "sl b") => `(tactic| first
  | ((with_reducible show EJ _ (Expr.Call (Expr.Attribute _ (Str.ofString "append") _) (_ :: _) [] _) _ _ _ _); (with_reducible refine' ej_bm PySem.F.plainAttrs_list PySem.F.slot_list_append PySem.F.type_list_append ?_ ?h1 ?h2 ?h3 ?h4 ?h5); (case h1 => rfl); (case h2 => rfl); (case h3 => rfl); (case h4 => rfl); (case h5 => rfl))
  | ((with_reducible show EJ _ (Expr.Call (Expr.Attribute _ (Str.ofString "extend") _) (_ :: _) [] _) _ _ _ _); (with_reducible refine' ej_bm PySem.F.plainAttrs_list PySem.F.slot_list_extend PySem.F.type_list_extend ?_ ?h1 ?h2 ?h3 ?h4 ?h5); (case h1 => rfl); (case h2 => rfl); (case h3 => rfl); (case h4 => rfl); (case h5 => rfl))
  | ((with_reducible show EJ _ (Expr.Call (Expr.Attribute _ (Str.ofString "pop") _) (_ :: _) [] _) _ _ _ _); (with_reducible refine' ej_bm PySem.F.plainAttrs_list PySem.F.slot_list_pop PySem.F.type_list_pop ?_ ?h1 ?h2 ?h3 ?h4 ?h5); (case h1 => rfl); (case h2 => rfl); (case h3 => rfl); (case h4 => rfl); (case h5 => rfl))
  | ((with_reducible show EJ _ (Expr.Call (Expr.Attribute _ (Str.ofString "pop") _) [] [] _) _ _ _ _); (with_reducible refine' ej_bm0 PySem.F.plainAttrs_list PySem.F.slot_list_pop PySem.F.type_list_pop ?_ ?h1 ?h2); (case h1 => rfl); (case h2 => rfl))
  | ((with_reducible show EJ _ (Expr.Call (Expr.Attribute _ (Str.ofString "reverse") _) [] [] _) _ _ _ _); (with_reducible refine' ej_bm0 PySem.F.plainAttrs_list PySem.F.slot_list_reverse PySem.F.type_list_reverse ?_ ?h1 ?h2); (case h1 => rfl); (case h2 => rfl))
  | ((with_reducible show EJ _ (Expr.Call (Expr.Attribute _ (Str.ofString "clear") _) [] [] _) _ _ _ _); (with_reducible refine' ej_bm0 PySem.F.plainAttrs_list PySem.F.slot_list_clear PySem.F.type_list_clear ?_ ?h1 ?h2); (case h1 => rfl); (case h2 => rfl))
  | ((with_reducible show EJ _ (Expr.Call (Expr.Attribute _ (Str.ofString "index") _) (_ :: _) [] _) _ _ _ _); (with_reducible refine' ej_bm PySem.F.plainAttrs_list PySem.F.slot_list_index PySem.F.type_list_index ?_ ?h1 ?h2 ?h3 ?h4 ?h5); (case h1 => rfl); (case h2 => rfl); (case h3 => rfl); (case h4 => rfl); (case h5 => rfl))
  | ((with_reducible show HasTy _ _ (D.raw _) _ ∧ _); first | refine ⟨ty_own 0 rfl, ?_⟩ | refine ⟨ty_own 1 rfl, ?_⟩ | refine ⟨ty_own 2 rfl, ?_⟩)
  | ((with_reducible show HasTy _ _ (D.lst _) _ ∧ _); refine ⟨ty_lst, ?_⟩))
local macro_rules | `(tactic| wtm_at "sl a") => `(tactic| first
  | ((with_reducible show AJ _ [] _ _ _ _); refine aj_nil ?_)
  | ((with_reducible show AJ _ (_ :: _) _ _ _ _); (with_reducible refine' aj_cons ?_ ?h1); (case h1 => rfl)))
local macro_rules | `(tactic| wtm_at "sl t") => `(tactic| first
  | ((with_reducible show TJ _ (Expr.UnaryOp UnaryOp.Not _ _) _ _ _ _); refine tj_not ?_)
  | ((with_reducible show TJ _ (Expr.BoolOp _ _ _) _ _ _ _); refine tjs_of ?_)
  | ((with_reducible show TJ _ (Expr.Compare _ [_] _ _) _ _ _ _); (with_reducible refine' tj_cmp ?_ ?h1); (case h1 => first | exact nomark _ | rfl))
  | ((with_reducible show TJ _ (Expr.Compare _ [_, _] _ _) _ _ _ _); (with_reducible refine' tj_chain ?_ ?h1); (case h1 => rfl))
  | ((with_reducible show TJ _ (_) _ _ _ _); (with_reducible refine' tj_b ?_ ?h1); (case h1 => intro _; rfl))
  | ((with_reducible show TJs _ BoolOp.And (_ :: _ :: _) _ _ _ _ _); refine tjs_and ?_)
  | ((with_reducible show TJs _ BoolOp.Or (_ :: _ :: _) _ _ _ _ _); refine tjs_or ?_)
  | ((with_reducible show TJs _ _ [_] _ _ _ _ _); refine tjs_one ?_))
local macro_rules | `(tactic| wtm_at "sl s") => `(tactic| first
  | ((with_reducible show SJ _ [] _ _ _); refine sj_nil ?_)
  | ((with_reducible show SJ _ (Stmt.Return (some _) _ :: _) _ _ _); refine sj_cons (s1_ret ?_))
  | ((with_reducible show SJ _ (Stmt.Return none _ :: _) _ _ _); refine sj_cons (s1_retN ?_))
  | ((with_reducible show SJ _ (Stmt.If _ _ _ _ :: _) _ _ _); refine sj_cons (s1_if ?_))
  | ((with_reducible show SJ _ (Stmt.Pass _ :: _) _ _ _); refine sj_cons (s1_pass ?_))
  | ((with_reducible show SJ _ (Stmt.Break _ :: _) _ _ _); refine sj_cons (s1_break ?_))
  | ((with_reducible show SJ _ (Stmt.Continue _ :: _) _ _ _); refine sj_cons (s1_cont ?_))
  | ((with_reducible show SJ _ (Stmt.Assign [Expr.Subscript _ _ _] _ _ :: _) _ _ _); (with_reducible refine' sj_cons (s1_setI ?_ ?h1 ?h2 ?h3 ?h4)); (case h1 => intro _; rfl); (case h2 => rfl); (case h3 => rfl); (case h4 => rfl))
  | ((with_reducible show SJ _ (Stmt.AugAssign (Expr.Subscript _ _ _) _ _ _ :: _) _ _ _); (with_reducible refine' sj_cons (s1_augI ?_ ?h1)); (case h1 => intros; rfl))
  | ((with_reducible show SJ _ (Stmt.Expr _ _ :: _) _ _ _); refine sj_cons (s1_expr ?_))
  | ((with_reducible show SJ _ (Stmt.Raise _ _ _ :: _) _ _ _); (with_reducible refine' sj_cons (s1_rs ?h0 ?h1 ?h2 ?h3 ?h4 ?_ ?h5 ?h6)); (case h0 => with_reducible assumption); (case h1 => with_reducible assumption); (case h2 => kernel_rfl); (case h3 => kernel_rfl); (case h4 => kernel_rfl); (case h5 => rfl); (case h6 => rfl))
  | ((with_reducible show SJ _ (Stmt.Assign [Expr.Name _ _] _ _ :: _) _ _ _); (with_reducible refine' sj_cons (s1_nm ?h0 ?h1 ?h2 ?h3 ?h4 ?_ ?h5)); (case h0 => with_reducible assumption); (case h1 => with_reducible assumption); (case h2 => kernel_rfl); (case h3 => kernel_rfl); (case h4 => kernel_rfl); (case h5 => rfl))
  | ((with_reducible show SJ _ (Stmt.AugAssign (Expr.Name _ _) _ _ _ :: _) _ _ _); (with_reducible refine' sj_cons (s1_ag ?h0 ?h1 ?h2 ?h3 ?h4 ?h5 ?_)); (case h0 => with_reducible assumption); (case h1 => with_reducible assumption); (case h2 => kernel_rfl); (case h3 => kernel_rfl); (case h4 => kernel_rfl); (case h5 => rfl))
  | ((with_reducible show SJ _ (Stmt.Assign [Expr.Tuple _ _ _] (Expr.Call _ _ _ _) _ :: _) _ _ _); (with_reducible refine' sj_cons (s1_asg ?_ ?h1 ?h2 ?h3)); (case h1 => rfl); (case h2 => rfl); (case h3 => rfl))
  | ((with_reducible show SJ _ (Stmt.Assign [Expr.Tuple [Expr.Name _ _, Expr.Name _ _] _ _] (Expr.Tuple [_, _] _ _) _ :: _) _ _ _); first | ((with_reducible refine' sj_cons (s1_prs ?h0 ?h1 ?h2 ?h3 ?h4 ?h5 ?h6 ?h7 ?h8 ?_ ?h9)); (case h0 => with_reducible assumption); (case h1 => with_reducible assumption); (case h2 => with_reducible assumption); (case h3 => kernel_rfl); (case h4 => kernel_rfl); (case h5 => kernel_rfl); (case h6 => kernel_rfl!); (case h7 => kernel_rfl!); (case h8 => kernel_rfl!); (case h9 => rfl)) | ((with_reducible refine' sj_cons (s1_ast ?h0 ?h1 ?_ ?h2 ?h3)); (case h0 => with_reducible assumption); (case h1 => kernel_rfl!); (case h2 => rfl); (case h3 => rfl)))
  | ((with_reducible show SJ _ (Stmt.Assign [Expr.Tuple _ _ _] (Expr.Tuple _ _ _) _ :: _) _ _ _); (with_reducible refine' sj_cons (s1_ast ?h0 ?h1 ?_ ?h2 ?h3)); (case h0 => with_reducible assumption); (case h1 => kernel_rfl!); (case h2 => rfl); (case h3 => rfl)))
local macro_rules | `(tactic| wtm_at "sl g") => `(tactic| first
  | ((with_reducible show GJ _ (Expr.Name _ _) _ _ _ _ _); (with_reducible refine' gj_nm ?h0 ?h1 ?h2 ?h3 ?h4 ?_); (case h0 => with_reducible assumption); (case h1 => with_reducible assumption); (case h2 => kernel_rfl); (case h3 => kernel_rfl); (case h4 => kernel_rfl))
  | ((with_reducible show GJ _ (Expr.Tuple [Expr.Name _ _, Expr.Name _ _] _ _) _ _ _ _ _); (with_reducible refine' gj_tp2 ?h0 ?h1 ?h2 ?h3 ?h4 ?h5 ?h6 ?h7 ?h8 ?_); (case h0 => with_reducible assumption); (case h1 => with_reducible assumption); (case h2 => with_reducible assumption); (case h3 => kernel_rfl); (case h4 => kernel_rfl); (case h5 => kernel_rfl); (case h6 => kernel_rfl); (case h7 => kernel_rfl); (case h8 => kernel_rfl))
  | ((with_reducible show GJ _ (Expr.Tuple [Expr.Name _ _, Expr.Name _ _, Expr.Name _ _] _ _) _ _ _ _ _); (with_reducible refine' gj_tp3 ?h0 ?h1 ?h2 ?h3 ?h4 ?h5 ?h6 ?h7 ?h8 ?h9 ?i0 ?i1 ?i2 ?_); (case h0 => with_reducible assumption); (case h1 => with_reducible assumption); (case h2 => with_reducible assumption); (case h3 => with_reducible assumption); (case h4 => kernel_rfl); (case h5 => kernel_rfl); (case h6 => kernel_rfl); (case h7 => kernel_rfl); (case h8 => kernel_rfl); (case h9 => kernel_rfl); (case i0 => kernel_rfl); (case i1 => kernel_rfl); (case i2 => kernel_rfl))
  | ((with_reducible show GJ _ (Expr.Tuple _ _ _) _ _ _ _ _); (with_reducible refine' gj_tp ?h0 ?_ ?h1 ?h2 ?h3); (case h0 => with_reducible assumption); (case h1 => rfl); (case h2 => rfl); (case h3 => rfl))
  | ((with_reducible show GsJ _ (_ :: _) _ _ _ _ _); (with_reducible refine' gsj_cons ?_ ?h1); (case h1 => rfl))
  | ((with_reducible show GsJ _ [] _ _ _ _ _); refine gsj_nil ?_))
local macro_rules | `(tactic| wtm_at "sl i") => `(tactic| first
  | ((with_reducible show IJ _ _ (Expr.Name _ _) _ _ _ _); (with_reducible refine' ij_nm ?h0 ?h1 ?h2 ?h3 ?h4 ?h5 ?h6 ?_); (case h0 => with_reducible assumption); (case h1 => with_reducible assumption); (case h2 => kernel_rfl); (case h3 => kernel_rfl); (case h4 => rfl); (case h5 => kernel_rfl); (case h6 => first | assumption | exact .inl rfl | exact .inr (.inl rfl) | exact .inr (.inr rfl)))
  | ((with_reducible show IJ _ _ (Expr.Call (Expr.Name (Str.ofString "enumerate") _) [_] [] _) _ _ _ _); (with_reducible refine' ij_en ?h0 ?h1 ?h2 ?_ ?h3); (case h0 => with_reducible assumption); (case h1 => with_reducible assumption); (case h2 => kernel_rfl); (case h3 => rfl))
  | ((with_reducible show IJ _ _ (Expr.Call (Expr.Name (Str.ofString "range") _) [_] [] _) _ _ _ _); (with_reducible refine' ij_r1 ?h0 ?h1 ?h2 ?_ ?h3); (case h0 => with_reducible assumption); (case h1 => with_reducible assumption); (case h2 => kernel_rfl); (case h3 => rfl))
  | ((with_reducible show IJ _ _ (Expr.Call (Expr.Name (Str.ofString "range") _) [_, _] [] _) _ _ _ _); (with_reducible refine' ij_r2 ?h0 ?h1 ?h2 ?_ ?h3 ?h4); (case h0 => with_reducible assumption); (case h1 => with_reducible assumption); (case h2 => kernel_rfl); (case h3 => rfl); (case h4 => rfl))
  | ((with_reducible show IJ _ _ (Expr.Call (Expr.Name (Str.ofString "zip") _) [_, _] [] _) _ _ _ _); (with_reducible refine' ij_zp ?h0 ?h1 ?h2 ?_ ?h3 ?h4); (case h0 => with_reducible assumption); (case h1 => with_reducible assumption); (case h2 => kernel_rfl); (case h3 => rfl); (case h4 => rfl))
  | ((with_reducible show IJ _ _ (Expr.Subscript _ _ _) _ _ _ _); refine ij_list ?_)
  | ((with_reducible show IJ _ _ (Expr.BinOp _ _ _ _) _ _ _ _); refine ij_list ?_)
  | ((with_reducible show IJ _ _ (Expr.Call _ _ _ _) _ _ _ _); refine ij_list ?_))
local macro_rules | `(tactic| wtm_at "sl o") => `(tactic| first
  | ((with_reducible show OpD _ (binaryOp Operator.Add) (D.int _) (D.int _) _ _); refine od_add ?_)
  | ((with_reducible show OpD _ (inplaceOp Operator.Add) (D.int _) (D.int _) _ _); refine oi_add ?_)
  | ((with_reducible show OpD _ (binaryOp Operator.Sub) (D.int _) (D.int _) _ _); refine od_sub ?_)
  | ((with_reducible show OpD _ (inplaceOp Operator.Sub) (D.int _) (D.int _) _ _); refine oi_sub ?_)
  | ((with_reducible show OpD _ (binaryOp Operator.Mult) (D.int _) (D.int _) _ _); refine od_mulC (by first | exact .inl ⟨by omega, by omega⟩ | exact .inr ⟨by omega, by omega⟩) ?_)
  | ((with_reducible show OpD _ (binaryOp Operator.Pow) (D.int 10) (D.int 9) _ _); refine od_p9 ?_)
  | ((with_reducible show OpD _ (binaryOp Operator.Pow) (D.int 10) (D.int 12) _ _); refine od_p12 ?_)
  | ((with_reducible show OpD _ (binaryOp Operator.Pow) (D.int 10) (D.int 18) _ _); refine od_p18 ?_)
  | ((with_reducible show OpD _ (binaryOp Operator.Pow) (D.int 10) (D.int 20) _ _); refine od_p20 ?_)
  | ((with_reducible show OpD _ (compareOp CmpOp.Lt) (D.int _) (D.int _) _ _); refine od_lt ?_)
  | ((with_reducible show OpD _ (compareOp CmpOp.LtE) (D.int _) (D.int _) _ _); refine od_le ?_)
  | ((with_reducible show OpD _ (compareOp CmpOp.Gt) (D.int _) (D.int _) _ _); refine od_gt ?_)
  | ((with_reducible show OpD _ (compareOp CmpOp.GtE) (D.int _) (D.int _) _ _); refine od_ge ?_)
  | ((with_reducible show OpD _ (compareOp CmpOp.Eq) (D.int _) (D.int _) _ _); refine od_eqI ?_)
  | ((with_reducible show OpD _ (compareOp CmpOp.NotEq) (D.int _) (D.int _) _ _); refine od_neI ?_)
  | ((with_reducible show OpD _ (compareOp CmpOp.Eq) (D.str _) (D.str _) _ _); refine od_eqS ?_)
  | ((with_reducible show UnD _ _ (D.int _) _ _); refine ud_neg ?_)
  | ((with_reducible show ClD _ (Value.builtin "len") [D.lst _] _ _); refine cd_len_lst ?_)
  | ((with_reducible show ClD _ (Value.builtin "len") [D.tup _] _ _); refine cd_len_tup ?_)
  | ((with_reducible show ClD _ (Value.builtin "len") [D.fz _] _ _); refine cd_len_fz ?_)
  | ((with_reducible show ClD _ (Value.type "int") [D.int _] _ _); refine cd_intI ?_)
  | ((with_reducible show ClD _ (Value.type "int") [D.bl _] _ _); refine cd_intB ?_)
  | ((with_reducible show ClD _ (Value.builtin "isinstance") [_, D.ty _] _ _); (with_reducible refine' cd_isi ?h1 ?h2 ?_); (case h1 => first | assumption | rfl); (case h2 => decide))
  | ((with_reducible show ClD _ (Value.builtin "isinstance") [_, D.tup [D.ty _, D.ty _]] _ _); (with_reducible refine' cd_isi2 ?h1 ?h2 ?h3 ?_); (case h1 => first | assumption | rfl); (case h2 => decide); (case h3 => decide)))
local macro_rules | `(tactic| wtm_at "sl v") => `(tactic| first
  | ((with_reducible show OpD _ (binaryOp Operator.Mod) (D.int _) (D.int _) _ _); refine od_modV (by omega) fun r h0 h1 => ?_)
  | ((with_reducible show OpD _ (binaryOp Operator.FloorDiv) (D.int _) (D.int _) _ _); refine od_div (divOk_le (by omega) (by omega)) ?_))
local macro_rules | `(tactic| wtm_at "sl m") => `(tactic| first
  | ((with_reducible show EJ _ (Expr.List (_ :: _) _) _ _ _ _); refine ej_lst ?_)
  | ((with_reducible show IxD _ (D.raw _) (D.int _) _ _); first | refine id_own 0 rfl rfl ?_ | refine id_own 1 rfl rfl ?_ | refine id_own 2 rfl rfl ?_)
  | ((with_reducible show if true = true then _ else _); refine ite_t ?_)
  | ((with_reducible show if (!false) = true then _ else _); refine ite_nf ?_)
  | ((with_reducible show if (!true) = true then _ else _); refine ite_nt ?_)
  | ((with_reducible show if false = true then _ else _); refine ite_f ?_)
  | ((with_reducible show ∃ k, D.bl _ = D.bl k ∧ _); refine ⟨_, rfl, ?_⟩)
  | ((with_reducible show ∃ i, D.int _ = D.int i ∧ _); refine ⟨_, rfl, ?_⟩)
  | ((with_reducible show OJ _ none _ _ _ _); refine oj_none ?_)
  | ((with_reducible show OJ _ (some _) _ _ _ _); refine oj_some ?_)
  | ((with_reducible show SlD _ (D.lst _) _ _ _ _); refine sd_lst ?_)
  | ((with_reducible show SlD _ (D.fz _) _ _ _ _); refine sd_fz ?_)
  | ((with_reducible show SlD _ (D.tup _) _ _ _ _); refine sd_tup ?_)
  | ((with_reducible show List.length _ ≤ 100000 ∧ _); refine ⟨Nat.le_of_ble_eq_true rfl, ?_⟩))
local macro_rules | `(tactic| wtm_at "sl") => `(tactic| repeat (first | wtm_at "sl e" | wtm_at "sl a" | wtm_at "sl b" | wtm_at "sl f" | wtm_at "sl h" | wtm_at "sl o" | wtm_at "sl t" | wtm_at "sl s" | wtm_at "sl m" | wtm_at "sl g" | wtm_at "sl i"))
local macro_rules | `(tactic| wtm_at "slv") => `(tactic| repeat (first | wtm_at "sl e" | wtm_at "sl a" | wtm_at "sl b" | wtm_at "sl f" | wtm_at "sl h" | wtm_at "sl v" | wtm_at "sl o" | wtm_at "sl t" | wtm_at "sl s" | wtm_at "sl m" | wtm_at "sl g" | wtm_at "sl i"))
local macro_rules | `(tactic| wtm_at "sl in") => `(tactic| conv => arg 2; whnf)
local macro_rules | `(tactic| wtm_at "sl r0") => `(tactic| refine ⟨[], List.nil_sublist _, rfl, ?_⟩)
section
variable {X : Cx} {st : Sls} {M : Mem} {Q : DK} {E : EK} {P : Program} {w : World} {K : PySem.W.Frag} {mg : Str → Option Value} {base : Heap} {f : Addr} {fd : FuncData} {d e : D} {es : List D} {lo hi : Int} {i : Int}
/-! ### a chooser with a list -/
def cListR : Ct := Lc fun ds p o Q => ∃ ns cs : List Int, ds = [.raw (.ref p), .lst (ns.map .int), .tup (cs.map .int)] ∧ isSrc o ∧ ns.length ≤ 100 ∧ (∀ z ∈ ns, 2 ≤ z ∧ z ≤ 7) ∧ cs.length ≤ 100 ∧ (∀ z ∈ cs, 0 ≤ z ∧ z ≤ 10 ^ 20) ∧ ∀ o', isSrc o' → Q (.bl true) o'
theorem kd1_of {ps : List Int} {d : D} (h : d.seq = some (ps.map D.int)) (h0 : d.kd 0) : d.kd 1 := ⟨h0, fun es he e hm => by
  rw [h] at he; cases he
  obtain ⟨z, _, rfl⟩ := List.mem_map.mp hm
  exact ⟨_, rfl⟩⟩
theorem kd1L (ps : List Int) : (D.lst (ps.map D.int)).kd 1 := kd1_of rfl ⟨_, rfl⟩
theorem kd1T (ps : List Int) : (D.tup (ps.map D.int)).kd 1 := kd1_of rfl ⟨_, rfl⟩
theorem cut_drop {ns : List Int} {k : Int} (h0 : 0 ≤ k) : cutD (ns.map D.int) (some k) none = (ns.drop k.toNat).map D.int := by
  obtain ⟨j, rfl⟩ := Int.eq_ofNat_of_zero_le h0
  unfold cutD
  rw [HT.sIx_nat, HT.sIx_none, List.length_map, List.take_of_length_le (by simp), Int.toNat_natCast]
  by_cases h : j ≤ ns.length
  · rw [Nat.min_eq_left h, List.map_drop]
  · rw [Nat.min_eq_right (by omega), List.drop_of_length_le (by simp), List.drop_of_length_le (by omega)]
    rfl
theorem kd2R {rows : List D} {n : Nat} (h : ∀ r ∈ rows, ∃ ri : List Int, r = .tup (ri.map .int) ∧ ri.length = n ∧ ∀ z ∈ ri, 0 ≤ z) : (D.lst rows).kd 2 := ⟨⟨_, rfl⟩, fun es he e hm => by
  cases he
  obtain ⟨ri, rfl, _⟩ := h e hm
  exact kd1T ri⟩
theorem tameR {rows : List D} {n : Nat} (hl : rows.length ≤ 1000000) (hn : n ≤ 1000000) (h : ∀ r ∈ rows, ∃ ri : List Int, r = .tup (ri.map .int) ∧ ri.length = n ∧ ∀ z ∈ ri, 0 ≤ z) : Tame (.lst rows) := fun es he => by
  cases he
  refine ⟨hl, fun r hr es e => ?_⟩
  obtain ⟨ri, rfl, h2, _⟩ := h r hr
  cases e
  rw [List.length_map]; omega
theorem use_nextL {K : PySem.W.Frag} {st : Sls} {M : Mem} {Q : DK} {E : EK} {C : Addr} {ps ns cs : List Int} {g z k : Int} {sc : D} {rows : List D} (hs : sc.seq = some ((g :: ns).map D.int)) (h0 : sc.kd 0) (hl : (g :: ns).length ≤ 200) (hge : ∀ z ∈ g :: ns, 2 ≤ z) (hg : g ≤ 1000) (hcl : cs.length ≤ 200) (hc : ∀ z ∈ cs, 0 ≤ z)
    (hrl : (rows.length : Int) = g) (hr : ∀ r ∈ rows, ∃ ri : List Int, r = .tup (ri.map .int) ∧ ri.length = cs.length ∧ ∀ z ∈ ri, 0 ≤ z) (hsum : colSums (rowsOf rows) cs.length = cs) (hk : 0 ≤ k) (hz : ps[k.toNat]? = some z) (hzg : z < g) (q : Q (.int z) M) :
    CtJ (cNext K C) 5 [.ins C [("strategy", .lst (ps.map .int))], sc, .tup (cs.map .int), .lst rows, .int k] st M Q E := ctj_p ⟨_, sc, _, _, _, rfl, .inl ⟨ps, rfl⟩, kd1_of hs h0, kd1T cs, kd2R hr, tameR (by omega) (by omega) hr, ⟨_, rfl⟩, by
  rw [splitErr_ok hs hl hge hg hcl hc rfl rfl hrl hr hsum]
  have hkl := (List.getElem?_eq_some_iff.mp hz).1
  simp only
  unfold nextAns
  rw [if_pos (by simp [atLeast, hk])]
  intro k' e
  cases e
  simp only [List.length_map]
  rw [if_neg (by omega)]
  intro z' hz' g' ns' hs'
  rw [List.getElem?_map, hz] at hz'
  cases hz'
  rw [hs] at hs'
  have e1 : g = g' := by
    have := Option.some.inj hs'
    simp only [List.map_cons, List.cons.injEq] at this
    exact D.int.inj this.1
  subst e1
  rw [if_neg (by omega)]
  exact q⟩
theorem f_l_list_right (F : FunD K "_law_list_right" "_law_list_right" (defArgs s_l_list_right) (defBody s_l_list_right) (defScope s_l_list_right) [] [] f fd) (B : Bs mg) {C : Addr} (h1 : FnI P w K mg base 2 "_law_path" p_l_path cPath) (h2 : FnI P w K mg base 2 "_law_shuffled" p_l_shuffled cShuf) (h3 : FnI P w K mg base 1 "_law_even" p_l_even cEven) (mk1 : True → MkI P w K mg base 7 "Chooser" C p_Chooser___init__ (cChInit K C)) (m1 : MtI P w K mg base 7 C "next_choice" p_Chooser_next_choice (cNext K C)) (k1 : Cls K C) : FnOk P w K mg base (L2.CX P w) 9 f fd p_l_list_right (spOf K 3 cListR) := by
  refine fn_rule F sc_l_list_right fun X hX ds M Q E hl0 hc0 => ?_
  have cf := hX.cf sc_l_list_right
  clear hX hl0 F
  obtain ⟨n0, n1, n2, n3, n4, n5, n6, n7, n8, _⟩ := nms_l_list_right
  obtain ⟨b1, b2, b3, b4, b5, b6, b7, b8, b9, b10, b11, b12, b13, b14, b15, b16, b17, b18, b19⟩ := B
  refine body_l hc0 fun p o Q' ⟨ns, cs, e, ho, hnl, hn, hcl, hc, hq⟩ => ?_
  clear hc0
  subst e
  wtm_at "sl in"
  wtm_at "sl"
  refine ctj_l 0 rfl ⟨ns, rfl, ho, by omega, fun z hz => by have := hn z hz; omega, fun ps o1 hpl hpr ho1 => ?_⟩
  wtm_at "sl"
  refine cd_listO (.inl rfl) fun l1 => ?_
  wtm_at "sl"
  refine ej_frzI2 (f := "strategy") ?_
  refine ej_mkB (mk1 trivial) cf (by kernel_rfl) (by kernel_rfl) (by kernel_rfl) ?_
  wtm_at "sl"
  have hpn : ∀ (i : Nat) (z : Int), ps[i]? = some z → 0 ≤ z := fun i z h => by
    have hi := (List.getElem?_eq_some_iff.mp h).1
    exact (hpr i z ns[i] h (by simp [show i < ns.length by omega])).1
  have hat : (ps.map D.int).all (fun e => atLeast e 0) = true := List.all_eq_true.mpr fun x hx => by
    obtain ⟨z, hz, rfl⟩ := List.mem_map.mp hx
    obtain ⟨i, hi⟩ := List.mem_iff_getElem?.mp hz
    simp [atLeast, hpn i z hi]
  have hch : chOk (.lst (ps.map .int)) = true := by simp only [chOk, listOk, D.seq, hat, Bool.true_or]
  have hch2 : chOk (.tup (ps.map .int)) = true := by simp only [chOk, listOk, D.seq, hat, Bool.true_or]
  refine ⟨[.lst (ps.map .int)], .cons (.lst0 List.mem_cons_self) .nil, rfl, fun a => ?_⟩
  refine ⟨fun d M' => d = .non ∧ ∃ l, M' = [(l, .lst (ps.map .int)), (a, .ins C [("strategy", .raw (.ref l))])], fun _ _ => False, ⟨a, _, rfl, rfl, kd1L ps, fun es he => ?_, ?_⟩, fun d M' ⟨e1, l2, e2⟩ => ?_, fun _ _ h => h.elim⟩
  · cases he
    rw [List.length_map]; omega
  · rw [if_pos hch]
    exact fun l => ⟨rfl, l, rfl⟩
  subst e1 e2
  refine ⟨rfl, fun q hq => ?_, ?_⟩
  · rcases List.mem_cons.mp hq with rfl | hq
    · exact noLs_ints _
    · cases List.mem_singleton.mp hq; rfl
  refine ⟨_, _, _, _, _, rfl, rfl, ?_⟩
  wtm_at "sl"
  refine ej_frzI2 (f := "strategy") ?_
  refine ej_mkB (mk1 trivial) cf (by kernel_rfl) (by kernel_rfl) (by kernel_rfl) ?_
  wtm_at "sl"
  refine cd_tuple_lst ?_
  wtm_at "sl"
  refine ⟨[.tup (ps.map .int)], .cons (.same _) .nil, rfl, fun a2 => ?_⟩
  refine ⟨fun d M' => d = .non ∧ ∃ l, M' = [(l, .lst (ps.map .int)), (a2, .ins C [("strategy", .raw (.ref l))])], fun _ _ => False, ⟨a2, _, rfl, rfl, kd1T ps, fun es he => ?_, ?_⟩, fun d M' ⟨e1, l2, e2⟩ => ?_, fun _ _ h => h.elim⟩
  · cases he
    rw [List.length_map]; omega
  · rw [if_pos hch2]
    exact fun l => ⟨rfl, l, rfl⟩
  subst e1 e2
  refine ⟨rfl, fun q hq => ?_, ?_⟩
  · rcases List.mem_cons.mp hq with rfl | hq
    · exact noLs_ints _
    · cases List.mem_singleton.mp hq; rfl
  refine ⟨_, _, _, _, _, rfl, rfl, ?_⟩
  wtm_at "sl"
  refine ⟨_, _, rfl, ?_⟩
  wtm_at "sl"
  refine md_reverse 0 rfl ?_
  wtm_at "sl"
  refine md_append 0 rfl (by rw [List.length_reverse, List.length_map]; omega) ?_
  wtm_at "sl"
  refine' sj_cons (s1_fr (js := [7]) cf (fun i st' M' => ∃ (o' : MO) (a b : Option D) (xs : List D), st' = [some (.raw (.ref p)), some (.lst (ns.map .int)), some (.tup (cs.map .int)), some (.lst (ps.map .int)), some (.raw (.ref l1)), some (.ins C [("strategy", .lst (ps.map .int))]), some (.ins C [("strategy", .lst (ps.map .int))]), a, b] ∧ M' = [(l1, .lst xs), (p, o')] ∧ isSrc o') ?_)
  wtm_at "sl"
  refine ⟨⟨by omega, by rw [List.length_map]; omega⟩, ?_⟩
  wtm_at "sl"
  rw [List.length_map, Int.toNat_natCast]
  refine od_repL ⟨by omega, by omega⟩ (by rw [rngD_len]; simp; omega) ?_
  have erng : (List.replicate (2 : Int).toNat (rngD 0 ns.length)).flatten = (List.replicate 2 ((List.range ns.length).map fun (i : Nat) => (0 : Int) + (i : Int))).flatten.map D.int := by
    simp [rngD, Function.comp_def, List.replicate]
  rw [erng]
  wtm_at "sl"
  refine ctj_l 1 rfl ⟨_, rfl, ho1, by simp; omega, fun ms o2 hp ho2 => ?_⟩
  have hrg : ∀ y ∈ ms, 0 ≤ y ∧ y < ns.length := fun y hy => by
    have := hp.mem_iff.mp hy
    simp [List.replicate] at this
    obtain ⟨i, hi, rfl⟩ := this
    omega
  refine ⟨_, .inl rfl, ⟨o2, _, _, _, rfl, rfl, ho2⟩, fun i x st' M' hx ⟨o3, a, b, xs, e1, e2, ho3⟩ => ?_, fun st' M' ⟨o3, a, b, xs, e1, e2, ho3⟩ => ?_⟩
  · subst e1 e2
    rw [List.getElem?_map] at hx
    obtain ⟨k, hk, rfl⟩ : ∃ k, ms[i]? = some k ∧ D.int k = x := by
      cases h : ms[i]? with
      | none => rw [h] at hx; cases hx
      | some k => rw [h] at hx; cases hx; exact ⟨k, rfl, rfl⟩
    obtain ⟨hk0, hk1⟩ := hrg k (List.mem_of_getElem? hk)
    have hkl : k.toNat < ns.length := by omega
    have hnk : ns[k.toNat]? = some ns[k.toNat] := by simp [hkl]
    have hpk : ps[k.toNat]? = some ps[k.toNat] := by simp [show k.toNat < ps.length by omega]
    have hatn : atI (ns.map D.int) k = some (.int ns[k.toNat]) := by
      have := atI_nat (xs := ns.map D.int) (j := k.toNat) (v := .int ns[k.toNat]) (by rw [List.getElem?_map, hnk]; rfl)
      rwa [show ((k.toNat : Nat) : Int) = k by omega] at this
    have hatp : atI (ps.map D.int) k = some (.int ps[k.toNat]) := by
      have := atI_nat (xs := ps.map D.int) (j := k.toNat) (v := .int ps[k.toNat]) (by rw [List.getElem?_map, hpk]; rfl)
      rwa [show ((k.toNat : Nat) : Int) = k by omega] at this
    wtm_at "sl"
    refine id_lst hatn ?_
    wtm_at "sl"
    have hnk2 := hn _ (List.mem_of_getElem? hnk)
    refine ctj_p ⟨ns[k.toNat], cs, rfl, by omega, by omega, by omega, ?_⟩
    wtm_at "sl"
    have hpz := hpr _ _ _ hpk hnk
    have hcut : cutD (ns.map D.int) (some k) none = (ns[k.toNat] :: ns.drop (k.toNat + 1)).map D.int := by rw [cut_drop hk0, List.drop_eq_getElem_cons hkl]
    have hdl : (ns[k.toNat] :: ns.drop (k.toNat + 1)).length ≤ 200 := by simp; omega
    have hge2 : ∀ z ∈ ns[k.toNat] :: ns.drop (k.toNat + 1), 2 ≤ z := fun z hz => by
      rw [← List.drop_eq_getElem_cons hkl] at hz
      exact (hn z (List.mem_of_mem_drop hz)).1
    have hc0 : ∀ z ∈ cs, 0 ≤ z := fun z hz => (hc z hz).1
    obtain ⟨hev1, hev2⟩ := even_right (g := ns[k.toNat]) (by omega) hc0
    rw [hcut]
    refine use_nextL rfl ⟨_, rfl⟩ hdl hge2 (by omega) (by omega) hc0 (by simp; omega) hev2 hev1 hk0 hpk (by omega) ?_
    wtm_at "sl"
    refine id_lst hatp ?_
    wtm_at "sl"
    rw [if_neg (by simp)]
    wtm_at "sl"
    refine cd_tuple_lst ?_
    wtm_at "sl"
    rw [hcut]
    refine use_nextL rfl ⟨_, rfl⟩ hdl hge2 (by omega) (by omega) hc0 (by simp; omega) hev2 hev1 hk0 hpk (by omega) ?_
    wtm_at "sl"
    refine id_lst hatp ?_
    wtm_at "sl"
    rw [if_neg (by simp)]
    wtm_at "sl"
    exact ⟨o3, _, _, _, rfl, rfl, ho3⟩
  · subst e1 e2
    wtm_at "sl"
    exact ⟨[(p, o3)], by simp, o3, rfl, hq o3 ho3⟩

end
end SL

set_option maxHeartbeats 2000000
namespace SL
open PySem PySem.Spec PyProof.Rows L2 Evl
local macro_rules | `(tactic| wtm_at "sl e") => `(tactic| first
  | ((with_reducible show EJ _ (Expr.Name _ _) _ _ _ _); first | ((with_reducible refine' ej_nm ?h0 ?h1 ?h2 ?h3 ?h4 ?h5 ?_); (case h0 => with_reducible assumption); (case h1 => with_reducible assumption); (case h2 => kernel_rfl); (case h3 => kernel_rfl); (case h4 => rfl); (case h5 => kernel_rfl)) | ((with_reducible refine' ej_cn ?h0 ?h1 ?h2 ?_); (case h0 => with_reducible assumption); (case h1 => with_reducible assumption); (case h2 => kernel_rfl)) | ((with_reducible refine' ej_ty ?h0 ?h1 ?h2 ?_); (case h0 => with_reducible assumption); (case h1 => with_reducible assumption); (case h2 => kernel_rfl)))
  | ((with_reducible show EJ _ (Expr.Constant (Const.int _) _ _) _ _ _ _); refine ej_int ?_)
  | ((with_reducible show EJ _ (Expr.Constant (Const.str _) _ _) _ _ _ _); refine ej_str ?_)
  | ((with_reducible show EJ _ (Expr.Constant (Const.bool _) _ _) _ _ _ _); refine ej_bl ?_)
  | ((with_reducible show EJ _ (Expr.Constant Const.none _ _) _ _ _ _); refine ej_non ?_)
  | ((with_reducible show EJ _ (Expr.BinOp _ _ _ _) _ _ _ _); refine ej_op ?_)
  | ((with_reducible show EJ _ (Expr.UnaryOp UnaryOp.Not _ _) _ _ _ _); refine ej_not ?_)
  | ((with_reducible show EJ _ (Expr.UnaryOp _ _ _) _ _ _ _); refine ej_un ?_)
  | ((with_reducible show EJ _ (Expr.Tuple _ _ _) _ _ _ _); refine ej_tup ?_)
  | ((with_reducible show EJ _ (Expr.BoolOp _ [_] _) _ _ _ _); refine ej_one ?_)
  | ((with_reducible show EJ _ (Expr.BoolOp BoolOp.And _ _) _ _ _ _); refine ej_and ?_)
  | ((with_reducible show EJ _ (Expr.BoolOp BoolOp.Or _ _) _ _ _ _); refine ej_or ?_)
  | ((with_reducible show EJ _ (Expr.IfExp _ _ _ _) _ _ _ _); refine ej_if ?_)
  | ((with_reducible show EJ _ (Expr.Compare _ [_] _ _) _ _ _ _); (with_reducible refine' ej_cmp ?_ ?h1); (case h1 => first | exact nomark _ | rfl))
  | ((with_reducible show EJ _ (Expr.Compare _ [_, _] _ _) _ _ _ _); (with_reducible refine' ej_chain ?_ ?h1); (case h1 => rfl))
  | ((with_reducible show EJ _ (Expr.Subscript _ (Expr.Slice _ _ _ _) _) _ _ _ _); refine ej_slice ?_)
  | ((with_reducible show EJ _ (Expr.Subscript _ _ _) _ _ _ _); (with_reducible refine' ej_ix ?_ ?h1); (case h1 => intro _ _; rfl))
  | ((with_reducible show EJ _ (Expr.Call (Expr.Name (Str.ofString "list") _) [Expr.Call (Expr.Name (Str.ofString "range") _) [_] [] _] [] _) _ _ _ _); (with_reducible refine' ej_listRg ?h0 ?h1 ?h2 ?h3 ?h4 ?_ ?h5 ?h6); (case h0 => with_reducible assumption); (case h1 => with_reducible assumption); (case h2 => with_reducible assumption); (case h3 => kernel_rfl); (case h4 => kernel_rfl); (case h5 => rfl); (case h6 => rfl))
  | ((with_reducible show EJ _ (Expr.Call (Expr.Name _ _) (_ :: _) [] _) _ _ _ _); first | ((with_reducible refine' ej_cB ?h0 ?h1 ?h2 ?_ ?h3 ?h4); (case h0 => with_reducible assumption); (case h1 => with_reducible assumption); (case h2 => kernel_rfl); (case h3 => rfl); (case h4 => rfl)) | ((with_reducible refine' ej_cT ?h0 ?h1 ?h2 ?_ ?h3 ?h4); (case h0 => with_reducible assumption); (case h1 => with_reducible assumption); (case h2 => kernel_rfl); (case h3 => rfl); (case h4 => rfl)) | ((with_reducible refine' ej_fn ?h0 ?h1 ?h2 ?h3 ?h4 ?_ ?h5 ?h6); (case h0 => with_reducible assumption); (case h1 => with_reducible assumption); (case h2 => kernel_rfl); (case h3 => kernel_rfl); (case h4 => kernel_rfl); (case h5 => rfl); (case h6 => rfl)) | ((with_reducible refine' ej_mk ?h0 ?h1 ?h2 ?h3 ?h4 ?_ ?h5 ?h6); (case h0 => with_reducible assumption); (case h1 => with_reducible assumption); (case h2 => kernel_rfl); (case h3 => kernel_rfl); (case h4 => kernel_rfl); (case h5 => rfl); (case h6 => rfl))))
local macro_rules | `(tactic| wtm_at "sl f") => `(tactic| first
  | ((with_reducible show EJ _ (Expr.Attribute _ _ _) _ _ _ _); (with_reducible refine' ej_fl ?h0 ?h1 ?h2 ?_ ?h3); (case h0 => with_reducible assumption); (case h1 => with_reducible assumption); (case h2 => with_reducible assumption); (case h3 => rfl))
  | ((with_reducible show SJ _ (Stmt.Assign [Expr.Attribute _ _ _] _ _ :: _) _ _ _); (with_reducible refine' sj_cons (s1_fl ?h0 ?h1 ?h2 ?_ ?h3)); (case h0 => with_reducible assumption); (case h1 => with_reducible assumption); (case h2 => with_reducible assumption); (case h3 => rfl))
  | ((with_reducible show EJ _ (Expr.Call (Expr.Attribute _ _ _) (_ :: _) [] _) _ _ _ _); (with_reducible refine' ej_mt ?h0 ?h1 ?h2 ?_ ?h3 ?h4 ?h5); (case h0 => with_reducible assumption); (case h1 => with_reducible assumption); (case h2 => kernel_rfl); (case h3 => rfl); (case h4 => rfl); (case h5 => rfl))
  | ((with_reducible show EJ _ (Expr.Call (Expr.Attribute _ _ _) [] [] _) _ _ _ _); (with_reducible refine' ej_mt0 ?h0 ?h1 ?h2 ?_ ?h3); (case h0 => with_reducible assumption); (case h1 => with_reducible assumption); (case h2 => kernel_rfl); (case h3 => rfl)))
local macro_rules | `(tactic| wtm_at "sl h") => `(tactic| first
  | ((with_reducible show ∃ d, FldD (D.ins _ _) _ _ d _ ∧ _); refine ⟨_, ⟨_, rfl, .inl rfl⟩, ?_⟩)
  | ((with_reducible show InsAt (D.ins _ _) _ _ _ ∧ _); refine ⟨⟨_, rfl, .inl rfl⟩, ?_⟩))
local macro_rules | `(tactic| wtm_at "sl b") => `(tactic| first
  | ((with_reducible show EJ _ (Expr.Call (Expr.Attribute _ (Str.ofString "append") _) (_ :: _) [] _) _ _ _ _); (with_reducible refine' ej_bm PySem.F.plainAttrs_list PySem.F.slot_list_append PySem.F.type_list_append ?_ ?h1 ?h2 ?h3 ?h4 ?h5); (case h1 => rfl); (case h2 => rfl); (case h3 => rfl); (case h4 => rfl); (case h5 => rfl))
  | ((with_reducible show EJ _ (Expr.Call (Expr.Attribute _ (Str.ofString "extend") _) (_ :: _) [] _) _ _ _ _); (with_reducible refine' ej_bm PySem.F.plainAttrs_list PySem.F.slot_list_extend PySem.F.type_list_extend ?_ ?h1 ?h2 ?h3 ?h4 ?h5); (case h1 => rfl); (case h2 => rfl); (case h3 => rfl); (case h4 => rfl); (case h5 => rfl))
  | ((with_reducible show EJ _ (Expr.Call (Expr.Attribute _ (Str.ofString "pop") _) (_ :: _) [] _) _ _ _ _); (with_reducible refine' ej_bm PySem.F.plainAttrs_list PySem.F.slot_list_pop PySem.F.type_list_pop ?_ ?h1 ?h2 ?h3 ?h4 ?h5); (case h1 => rfl); (case h2 => rfl); (case h3 => rfl); (case h4 => rfl); (case h5 => rfl))
  | ((with_reducible show EJ _ (Expr.Call (Expr.Attribute _ (Str.ofString "pop") _) [] [] _) _ _ _ _); (with_reducible refine' ej_bm0 PySem.F.plainAttrs_list PySem.F.slot_list_pop PySem.F.type_list_pop ?_ ?h1 ?h2); (case h1 => rfl); (case h2 => rfl))
  | ((with_reducible show EJ _ (Expr.Call (Expr.Attribute _ (Str.ofString "reverse") _) [] [] _) _ _ _ _); (with_reducible refine' ej_bm0 PySem.F.plainAttrs_list PySem.F.slot_list_reverse PySem.F.type_list_reverse ?_ ?h1 ?h2); (case h1 => rfl); (case h2 => rfl))
  | ((with_reducible show EJ _ (Expr.Call (Expr.Attribute _ (Str.ofString "clear") _) [] [] _) _ _ _ _); (with_reducible refine' ej_bm0 PySem.F.plainAttrs_list PySem.F.slot_list_clear PySem.F.type_list_clear ?_ ?h1 ?h2); (case h1 => rfl); (case h2 => rfl))
  | ((with_reducible show EJ _ (Expr.Call (Expr.Attribute _ (Str.ofString "index") _) (_ :: _) [] _) _ _ _ _); (with_reducible refine' ej_bm PySem.F.plainAttrs_list PySem.F.slot_list_index PySem.F.type_list_index ?_ ?h1 ?h2 ?h3 ?h4 ?h5); (case h1 => rfl); (case h2 => rfl); (case h3 => rfl); (case h4 => rfl); (case h5 => rfl))
  | ((with_reducible show HasTy _ _ (D.raw _) _ ∧ _); first | refine ⟨ty_own 0 rfl, ?_⟩ | refine ⟨ty_own 1 rfl, ?_⟩ | refine ⟨ty_own 2 rfl, ?_⟩)
  | ((with_reducible show HasTy _ _ (D.lst _) _ ∧ _); refine ⟨ty_lst, ?_⟩))
local macro_rules | `(tactic| wtm_at "sl a") => `(tactic| first
  | ((with_reducible show AJ _ [] _ _ _ _); refine aj_nil ?_)
  | ((with_reducible show AJ _ (_ :: _) _ _ _ _); (with_reducible refine' aj_cons ?_ ?h1); (case h1 => rfl)))
local macro_rules | `(tactic| wtm_at "sl t") => `(tactic| first
  | ((with_reducible show TJ _ (Expr.UnaryOp UnaryOp.Not _ _) _ _ _ _); refine tj_not ?_)
  | ((with_reducible show TJ _ (Expr.BoolOp _ _ _) _ _ _ _); refine tjs_of ?_)
  | ((with_reducible show TJ _ (Expr.Compare _ [_] _ _) _ _ _ _); (with_reducible refine' tj_cmp ?_ ?h1); (case h1 => first | exact nomark _ | rfl))
  | ((with_reducible show TJ _ (Expr.Compare _ [_, _] _ _) _ _ _ _); (with_reducible refine' tj_chain ?_ ?h1); (case h1 => rfl))
  | ((with_reducible show TJ _ (_) _ _ _ _); (with_reducible refine' tj_b ?_ ?h1); (case h1 => intro _; rfl))
  | ((with_reducible show TJs _ BoolOp.And (_ :: _ :: _) _ _ _ _ _); refine tjs_and ?_)
  | ((with_reducible show TJs _ BoolOp.Or (_ :: _ :: _) _ _ _ _ _); refine tjs_or ?_)
  | ((with_reducible show TJs _ _ [_] _ _ _ _ _); refine tjs_one ?_))
local macro_rules | `(tactic| wtm_at "sl s") => `(tactic| first
  | ((with_reducible show SJ _ [] _ _ _); refine sj_nil ?_)
  | ((with_reducible show SJ _ (Stmt.Return (some _) _ :: _) _ _ _); refine sj_cons (s1_ret ?_))
  | ((with_reducible show SJ _ (Stmt.Return none _ :: _) _ _ _); refine sj_cons (s1_retN ?_))
  | ((with_reducible show SJ _ (Stmt.If _ _ _ _ :: _) _ _ _); refine sj_cons (s1_if ?_))
  | ((with_reducible show SJ _ (Stmt.Pass _ :: _) _ _ _); refine sj_cons (s1_pass ?_))
  | ((with_reducible show SJ _ (Stmt.Break _ :: _) _ _ _); refine sj_cons (s1_break ?_))
  | ((with_reducible show SJ _ (Stmt.Continue _ :: _) _ _ _); refine sj_cons (s1_cont ?_))
  | ((with_reducible show SJ _ (Stmt.Assign [Expr.Subscript _ _ _] _ _ :: _) _ _ _); (with_reducible refine' sj_cons (s1_setI ?_ ?h1 ?h2 ?h3 ?h4)); (case h1 => intro _; rfl); (case h2 => rfl); (case h3 => rfl); (case h4 => rfl))
  | ((with_reducible show SJ _ (Stmt.AugAssign (Expr.Subscript _ _ _) _ _ _ :: _) _ _ _); (with_reducible refine' sj_cons (s1_augI ?_ ?h1)); (case h1 => intros; rfl))
  | ((with_reducible show SJ _ (Stmt.Expr _ _ :: _) _ _ _); refine sj_cons (s1_expr ?_))
  | ((with_reducible show SJ _ (Stmt.Raise _ _ _ :: _) _ _ _); (with_reducible refine' sj_cons (s1_rs ?h0 ?h1 ?h2 ?h3 ?h4 ?_ ?h5 ?h6)); (case h0 => with_reducible assumption); (case h1 => with_reducible assumption); (case h2 => kernel_rfl); (case h3 => kernel_rfl); (case h4 => kernel_rfl); (case h5 => rfl); (case h6 => rfl))
  | ((with_reducible show SJ _ (Stmt.Assign [Expr.Name _ _] _ _ :: _) _ _ _); (with_reducible refine' sj_cons (s1_nm ?h0 ?h1 ?h2 ?h3 ?h4 ?_ ?h5)); (case h0 => with_reducible assumption); (case h1 => with_reducible assumption); (case h2 => kernel_rfl); (case h3 => kernel_rfl); (case h4 => kernel_rfl); (case h5 => rfl))
  | ((with_reducible show SJ _ (Stmt.AugAssign (Expr.Name _ _) _ _ _ :: _) _ _ _); (with_reducible refine' sj_cons (s1_ag ?h0 ?h1 ?h2 ?h3 ?h4 ?h5 ?_)); (case h0 => with_reducible assumption); (case h1 => with_reducible assumption); (case h2 => kernel_rfl); (case h3 => kernel_rfl); (case h4 => kernel_rfl); (case h5 => rfl))
  | ((with_reducible show SJ _ (Stmt.Assign [Expr.Tuple _ _ _] (Expr.Call _ _ _ _) _ :: _) _ _ _); (with_reducible refine' sj_cons (s1_asg ?_ ?h1 ?h2 ?h3)); (case h1 => rfl); (case h2 => rfl); (case h3 => rfl))
  | ((with_reducible show SJ _ (Stmt.Assign [Expr.Tuple [Expr.Name _ _, Expr.Name _ _] _ _] (Expr.Tuple [_, _] _ _) _ :: _) _ _ _); first | ((with_reducible refine' sj_cons (s1_prs ?h0 ?h1 ?h2 ?h3 ?h4 ?h5 ?h6 ?h7 ?h8 ?_ ?h9)); (case h0 => with_reducible assumption); (case h1 => with_reducible assumption); (case h2 => with_reducible assumption); (case h3 => kernel_rfl); (case h4 => kernel_rfl); (case h5 => kernel_rfl); (case h6 => kernel_rfl!); (case h7 => kernel_rfl!); (case h8 => kernel_rfl!); (case h9 => rfl)) | ((with_reducible refine' sj_cons (s1_ast ?h0 ?h1 ?_ ?h2 ?h3)); (case h0 => with_reducible assumption); (case h1 => kernel_rfl!); (case h2 => rfl); (case h3 => rfl)))
  | ((with_reducible show SJ _ (Stmt.Assign [Expr.Tuple _ _ _] (Expr.Tuple _ _ _) _ :: _) _ _ _); (with_reducible refine' sj_cons (s1_ast ?h0 ?h1 ?_ ?h2 ?h3)); (case h0 => with_reducible assumption); (case h1 => kernel_rfl!); (case h2 => rfl); (case h3 => rfl)))
local macro_rules | `(tactic| wtm_at "sl g") => `(tactic| first
  | ((with_reducible show GJ _ (Expr.Name _ _) _ _ _ _ _); (with_reducible refine' gj_nm ?h0 ?h1 ?h2 ?h3 ?h4 ?_); (case h0 => with_reducible assumption); (case h1 => with_reducible assumption); (case h2 => kernel_rfl); (case h3 => kernel_rfl); (case h4 => kernel_rfl))
  | ((with_reducible show GJ _ (Expr.Tuple [Expr.Name _ _, Expr.Name _ _] _ _) _ _ _ _ _); (with_reducible refine' gj_tp2 ?h0 ?h1 ?h2 ?h3 ?h4 ?h5 ?h6 ?h7 ?h8 ?_); (case h0 => with_reducible assumption); (case h1 => with_reducible assumption); (case h2 => with_reducible assumption); (case h3 => kernel_rfl); (case h4 => kernel_rfl); (case h5 => kernel_rfl); (case h6 => kernel_rfl); (case h7 => kernel_rfl); (case h8 => kernel_rfl))
  | ((with_reducible show GJ _ (Expr.Tuple [Expr.Name _ _, Expr.Name _ _, Expr.Name _ _] _ _) _ _ _ _ _); (with_reducible refine' gj_tp3 ?h0 ?h1 ?h2 ?h3 ?h4 ?h5 ?h6 ?h7 ?h8 ?h9 ?i0 ?i1 ?i2 ?_); (case h0 => with_reducible assumption); (case h1 => with_reducible assumption); (case h2 => with_reducible assumption); (case h3 => with_reducible assumption); (case h4 => kernel_rfl); (case h5 => kernel_rfl); (case h6 => kernel_rfl); (case h7 => kernel_rfl); (case h8 => kernel_rfl); (case h9 => kernel_rfl); (case i0 => kernel_rfl); (case i1 => kernel_rfl); (case i2 => kernel_rfl))
  | ((with_reducible show GJ _ (Expr.Tuple _ _ _) _ _ _ _ _); (with_reducible refine' gj_tp ?h0 ?_ ?h1 ?h2 ?h3); (case h0 => with_reducible assumption); (case h1 => rfl); (case h2 => rfl); (case h3 => rfl))
  | ((with_reducible show GsJ _ (_ :: _) _ _ _ _ _); (with_reducible refine' gsj_cons ?_ ?h1); (case h1 => rfl))
  | ((with_reducible show GsJ _ [] _ _ _ _ _); refine gsj_nil ?_))
local macro_rules | `(tactic| wtm_at "sl i") => `(tactic| first
  | ((with_reducible show IJ _ _ (Expr.Name _ _) _ _ _ _); (with_reducible refine' ij_nm ?h0 ?h1 ?h2 ?h3 ?h4 ?h5 ?h6 ?_); (case h0 => with_reducible assumption); (case h1 => with_reducible assumption); (case h2 => kernel_rfl); (case h3 => kernel_rfl); (case h4 => rfl); (case h5 => kernel_rfl); (case h6 => first | assumption | exact .inl rfl | exact .inr (.inl rfl) | exact .inr (.inr rfl)))
  | ((with_reducible show IJ _ _ (Expr.Call (Expr.Name (Str.ofString "enumerate") _) [_] [] _) _ _ _ _); (with_reducible refine' ij_en ?h0 ?h1 ?h2 ?_ ?h3); (case h0 => with_reducible assumption); (case h1 => with_reducible assumption); (case h2 => kernel_rfl); (case h3 => rfl))
  | ((with_reducible show IJ _ _ (Expr.Call (Expr.Name (Str.ofString "range") _) [_] [] _) _ _ _ _); (with_reducible refine' ij_r1 ?h0 ?h1 ?h2 ?_ ?h3); (case h0 => with_reducible assumption); (case h1 => with_reducible assumption); (case h2 => kernel_rfl); (case h3 => rfl))
  | ((with_reducible show IJ _ _ (Expr.Call (Expr.Name (Str.ofString "range") _) [_, _] [] _) _ _ _ _); (with_reducible refine' ij_r2 ?h0 ?h1 ?h2 ?_ ?h3 ?h4); (case h0 => with_reducible assumption); (case h1 => with_reducible assumption); (case h2 => kernel_rfl); (case h3 => rfl); (case h4 => rfl))
  | ((with_reducible show IJ _ _ (Expr.Call (Expr.Name (Str.ofString "zip") _) [_, _] [] _) _ _ _ _); (with_reducible refine' ij_zp ?h0 ?h1 ?h2 ?_ ?h3 ?h4); (case h0 => with_reducible assumption); (case h1 => with_reducible assumption); (case h2 => kernel_rfl); (case h3 => rfl); (case h4 => rfl))
  | ((with_reducible show IJ _ _ (Expr.Subscript _ _ _) _ _ _ _); refine ij_list ?_)
  | ((with_reducible show IJ _ _ (Expr.BinOp _ _ _ _) _ _ _ _); refine ij_list ?_)
  | ((with_reducible show IJ _ _ (Expr.Call _ _ _ _) _ _ _ _); refine ij_list ?_))
local macro_rules | `(tactic| wtm_at "sl o") => `(tactic| first
  | ((with_reducible show OpD _ (binaryOp Operator.Add) (D.int _) (D.int _) _ _); refine od_add ?_)
  | ((with_reducible show OpD _ (inplaceOp Operator.Add) (D.int _) (D.int _) _ _); refine oi_add ?_)
  | ((with_reducible show OpD _ (binaryOp Operator.Sub) (D.int _) (D.int _) _ _); refine od_sub ?_)
  | ((with_reducible show OpD _ (inplaceOp Operator.Sub) (D.int _) (D.int _) _ _); refine oi_sub ?_)
  | ((with_reducible show OpD _ (binaryOp Operator.Mult) (D.int _) (D.int _) _ _); refine od_mulC (by first | exact .inl ⟨by omega, by omega⟩ | exact .inr ⟨by omega, by omega⟩) ?_)
  | ((with_reducible show OpD _ (binaryOp Operator.Pow) (D.int 10) (D.int 9) _ _); refine od_p9 ?_)
  | ((with_reducible show OpD _ (binaryOp Operator.Pow) (D.int 10) (D.int 12) _ _); refine od_p12 ?_)
  | ((with_reducible show OpD _ (binaryOp Operator.Pow) (D.int 10) (D.int 18) _ _); refine od_p18 ?_)
  | ((with_reducible show OpD _ (binaryOp Operator.Pow) (D.int 10) (D.int 20) _ _); refine od_p20 ?_)
  | ((with_reducible show OpD _ (compareOp CmpOp.Lt) (D.int _) (D.int _) _ _); refine od_lt ?_)
  | ((with_reducible show OpD _ (compareOp CmpOp.LtE) (D.int _) (D.int _) _ _); refine od_le ?_)
  | ((with_reducible show OpD _ (compareOp CmpOp.Gt) (D.int _) (D.int _) _ _); refine od_gt ?_)
  | ((with_reducible show OpD _ (compareOp CmpOp.GtE) (D.int _) (D.int _) _ _); refine od_ge ?_)
  | ((with_reducible show OpD _ (compareOp CmpOp.Eq) (D.int _) (D.int _) _ _); refine od_eqI ?_)
  | ((with_reducible show OpD _ (compareOp CmpOp.NotEq) (D.int _) (D.int _) _ _); refine od_neI ?_)
  | ((with_reducible show OpD _ (compareOp CmpOp.Eq) (D.str _) (D.str _) _ _); refine od_eqS ?_)
  | ((with_reducible show UnD _ _ (D.int _) _ _); refine ud_neg ?_)
  | ((with_reducible show ClD _ (Value.builtin "len") [D.lst _] _ _); refine cd_len_lst ?_)
  | ((with_reducible show ClD _ (Value.builtin "len") [D.tup _] _ _); refine cd_len_tup ?_)
  | ((with_reducible show ClD _ (Value.builtin "len") [D.fz _] _ _); refine cd_len_fz ?_)
  | ((with_reducible show ClD _ (Value.type "int") [D.int _] _ _); refine cd_intI ?_)
  | ((with_reducible show ClD _ (Value.type "int") [D.bl _] _ _); refine cd_intB ?_)
  | ((with_reducible show ClD _ (Value.builtin "isinstance") [_, D.ty _] _ _); (with_reducible refine' cd_isi ?h1 ?h2 ?_); (case h1 => first | assumption | rfl); (case h2 => decide))
  | ((with_reducible show ClD _ (Value.builtin "isinstance") [_, D.tup [D.ty _, D.ty _]] _ _); (with_reducible refine' cd_isi2 ?h1 ?h2 ?h3 ?_); (case h1 => first | assumption | rfl); (case h2 => decide); (case h3 => decide)))
local macro_rules | `(tactic| wtm_at "sl v") => `(tactic| first
  | ((with_reducible show OpD _ (binaryOp Operator.Mod) (D.int _) (D.int _) _ _); refine od_modV (by omega) fun r h0 h1 => ?_)
  | ((with_reducible show OpD _ (binaryOp Operator.FloorDiv) (D.int _) (D.int _) _ _); refine od_div (divOk_le (by omega) (by omega)) ?_))
local macro_rules | `(tactic| wtm_at "sl m") => `(tactic| first
  | ((with_reducible show EJ _ (Expr.List (_ :: _) _) _ _ _ _); refine ej_lst ?_)
  | ((with_reducible show IxD _ (D.raw _) (D.int _) _ _); first | refine id_own 0 rfl rfl ?_ | refine id_own 1 rfl rfl ?_ | refine id_own 2 rfl rfl ?_)
  | ((with_reducible show if true = true then _ else _); refine ite_t ?_)
  | ((with_reducible show if (!false) = true then _ else _); refine ite_nf ?_)
  | ((with_reducible show if (!true) = true then _ else _); refine ite_nt ?_)
  | ((with_reducible show if false = true then _ else _); refine ite_f ?_)
  | ((with_reducible show ∃ k, D.bl _ = D.bl k ∧ _); refine ⟨_, rfl, ?_⟩)
  | ((with_reducible show ∃ i, D.int _ = D.int i ∧ _); refine ⟨_, rfl, ?_⟩)
  | ((with_reducible show OJ _ none _ _ _ _); refine oj_none ?_)
  | ((with_reducible show OJ _ (some _) _ _ _ _); refine oj_some ?_)
  | ((with_reducible show SlD _ (D.lst _) _ _ _ _); refine sd_lst ?_)
  | ((with_reducible show SlD _ (D.fz _) _ _ _ _); refine sd_fz ?_)
  | ((with_reducible show SlD _ (D.tup _) _ _ _ _); refine sd_tup ?_)
  | ((with_reducible show List.length _ ≤ 100000 ∧ _); refine ⟨Nat.le_of_ble_eq_true rfl, ?_⟩))
local macro_rules | `(tactic| wtm_at "sl") => `(tactic| repeat (first | wtm_at "sl e" | wtm_at "sl a" | wtm_at "sl b" | wtm_at "sl f" | wtm_at "sl h" | wtm_at "sl o" | wtm_at "sl t" | wtm_at "sl s" | wtm_at "sl m" | wtm_at "sl g" | wtm_at "sl i"))
local macro_rules | `(tactic| wtm_at "slv") => `(tactic| repeat (first | wtm_at "sl e" | wtm_at "sl a" | wtm_at "sl b" | wtm_at "sl f" | wtm_at "sl h" | wtm_at "sl v" | wtm_at "sl o" | wtm_at "sl t" | wtm_at "sl s" | wtm_at "sl m" | wtm_at "sl g" | wtm_at "sl i"))
local macro_rules | `(tactic| wtm_at "sl in") => `(tactic| conv => arg 2; whnf)
local macro_rules | `(tactic| wtm_at "sl r0") => `(tactic| refine ⟨[], List.nil_sublist _, rfl, ?_⟩)
section
variable {X : Cx} {st : Sls} {M : Mem} {Q : DK} {E : EK} {P : Program} {w : World} {K : PySem.W.Frag} {mg : Str → Option Value} {base : Heap} {f : Addr} {fd : FuncData} {d e : D} {es : List D} {lo hi : Int} {i : Int}
/-! ### the law -/
theorem use_nextS {K : PySem.W.Frag} {st : Sls} {M : Mem} {Q : DK} {E : EK} {C : Addr} {ns cs : List Int} {g k : Int} {sc : D} {rows : List D} {x : Str} (hs : sc.seq = some ((g :: ns).map D.int)) (h0 : sc.kd 0) (hl : (g :: ns).length ≤ 200) (hge : ∀ z ∈ g :: ns, 2 ≤ z) (hg : g ≤ 1000) (hcl : cs.length ≤ 200) (hc : ∀ z ∈ cs, 0 ≤ z)
    (hrl : (rows.length : Int) = g) (hr : ∀ r ∈ rows, ∃ ri : List Int, r = .tup (ri.map .int) ∧ ri.length = cs.length ∧ ∀ z ∈ ri, 0 ≤ z) (hsum : colSums (rowsOf rows) cs.length = cs) (hk : 0 ≤ k) (ok : SchOk (g :: ns)) (hro : RowsOk rows)
    (q : ∀ kk : Nat, (if x = lightS then IsMin (rows.map fun r => scaledW (g :: ns) (rowI r)) kk else IsMax (rows.map fun r => scaledW (g :: ns) (rowI r)) kk) → Q (.int kk) M) :
    CtJ (cNext K C) 5 [.ins C [("strategy", .str x)], sc, .tup (cs.map .int), .lst rows, .int k] st M Q E := ctj_p ⟨_, sc, _, _, _, rfl, .inr ⟨x, rfl⟩, kd1_of hs h0, kd1T cs, kd2R hr, tameR (by omega) (by omega) hr, ⟨_, rfl⟩, by
  rw [splitErr_ok hs hl hge hg hcl hc rfl rfl hrl hr hsum]
  simp only
  unfold nextAns
  rw [if_pos (by simp [atLeast, hk])]
  intro k' e
  exact ⟨_, rows, hs, ok, rfl, hro, q⟩⟩
theorem cut_ints {ns : List Int} {lo hi : Option Int} {x : D} (h : x ∈ cutD (ns.map D.int) lo hi) : ∃ z, x = .int z := by
  have := List.mem_of_mem_drop (List.mem_of_mem_take h)
  obtain ⟨z, _, rfl⟩ := List.mem_map.mp this
  exact ⟨z, rfl⟩
theorem cut15 (xs : List D) : (cutD xs (some 1) (some 5)).length ≤ 100 := by
  unfold cutD HT.sIx
  rw [List.length_take]
  simp
  omega
theorem prodL_le7 : ∀ {ns : List Int}, (∀ z ∈ ns, 2 ≤ z ∧ z ≤ 7) → prodL ns ≤ 7 ^ ns.length
  | [], _ => by decide
  | z :: ns, h => by
    have h1 := prodL_le7 (ns := ns) fun y hy => h y (List.mem_cons_of_mem _ hy)
    have h2 := prodL_pos (xs := ns) fun y hy => by have := h y (List.mem_cons_of_mem _ hy); omega
    have h3 := h z List.mem_cons_self
    show z * prodL ns ≤ 7 ^ (ns.length + 1)
    rw [Int.pow_succ, Int.mul_comm]
    exact Int.mul_le_mul h1 h3.2 (by omega) (by have : (0 : Int) < 7 ^ ns.length := Int.pow_pos (by decide); omega)
theorem schOk7 {ns : List Int} (h : ∀ z ∈ ns, 2 ≤ z ∧ z ≤ 7) (hl : ns.length ≤ 7) : SchOk ns := ⟨by omega, fun z hz => by have := h z hz; omega, by
  have h1 := prodL_le7 h
  have h2 : ∀ m : Nat, m < 8 → (7 : Int) ^ m ≤ 823543 := by decide
  have h3 := h2 ns.length (by omega)
  have h4 : (823543 : Int) < 2 ^ 9000 := by decide +kernel
  exact Int.lt_of_le_of_lt (Int.le_trans h1 h3) h4⟩
theorem mem_le_sum : ∀ {c : List Int}, (∀ y ∈ c, 0 ≤ y) → 0 ≤ c.sum ∧ ∀ y ∈ c, y ≤ c.sum
  | [], _ => ⟨by decide, fun _ h => by cases h⟩
  | z :: c, h => by
    obtain ⟨h1, h2⟩ := mem_le_sum (c := c) fun y hy => h y (List.mem_cons_of_mem _ hy)
    have h3 := h z List.mem_cons_self
    rw [List.sum_cons]
    refine ⟨by omega, fun y hy => ?_⟩
    rcases List.mem_cons.mp hy with rfl | hy
    · omega
    · have := h2 y hy; omega
theorem cols_rows {g : Int} {cs : List Int} {cols : List (List Int)} (hl : cols.length = cs.length) (hg : g ≤ 1000) (hcl : cs.length ≤ 1000) (hc : ∀ z ∈ cs, 0 ≤ z ∧ z ≤ 10 ^ 20) (h : ∀ (i : Nat) (c : List Int) (z : Int), cols[i]? = some c → cs[i]? = some z → (c.length : Int) = g ∧ c.sum = z ∧ ∀ y ∈ c, 0 ≤ y) :
    RowsOk ((List.range g.toNat).map fun (k : Nat) => D.tup ((colRow cols k).map .int)) := by
  refine ⟨by simp; omega, fun r hr => ?_⟩
  obtain ⟨k, hk, rfl⟩ := List.mem_map.mp hr
  refine ⟨_, rfl, by simp [colRow, hl]; omega, fun z hz => ?_⟩
  obtain ⟨c, hcm, rfl⟩ := List.mem_map.mp hz
  obtain ⟨j, hj⟩ := List.mem_iff_getElem?.mp hcm
  have hjl := (List.getElem?_eq_some_iff.mp hj).1
  have hcj : cs[j]? = some cs[j] := by simp [show j < cs.length by omega]
  obtain ⟨h1, h2, h3⟩ := h j c cs[j] hj hcj
  have hkl : k < c.length := by simp at hk; omega
  simp only [List.getD, List.getElem?_eq_getElem hkl, Option.getD_some]
  have h4 := (mem_le_sum h3).2 _ (List.getElem_mem hkl)
  have h5 := h3 _ (List.getElem_mem hkl)
  have h6 := (hc _ (List.mem_of_getElem? hcj)).2
  have h7 : (10 : Nat) ^ 20 < 2 ^ 67 := by decide
  have h8 : (2 : Nat) ^ 67 ≤ 2 ^ 100000 := Nat.pow_le_pow_right (by decide) (by decide)
  exact Nat.lt_of_lt_of_le (by omega) h8
def cLaw : Ct := Pc fun ds Q _ => ∃ ns : List Int, ds = [.fz (ns.map .int)] ∧ Q (.bl true)
theorem f_law (F : FunD K "law" "law" (defArgs s_law) (defBody s_law) (defScope s_law) [] [] f fd) (B : Bs mg) {C : Addr} (h1 : FnI P w K mg base 1 "_law_cell_at" p_l_cell_at cCellAt) (h2 : FnI P w K mg base 1 "_law_source" p_l_source cSource) (h3 : FnI P w K mg base 1 "_law_take" p_l_take cTake) (h4 : FnI P w K mg base 2 "_law_pick" p_l_pick cPick) (h5 : FnI P w K mg base 3 "_law_rounds" p_l_rounds cRounds) (h6 : FnI P w K mg base 3 "_law_crowd" p_l_crowd cCrowd) (h7 : FnI P w K mg base 3 "_law_parts" p_l_parts cParts) (h8 : FnI P w K mg base 3 "_law_extreme" p_l_extreme cExtL) (h9 : FnI P w K mg base 9 "_law_list_right" p_l_list_right cListR) (mk1 : True → MkI P w K mg base 7 "Chooser" C p_Chooser___init__ (cChInit K C)) (m1 : MtI P w K mg base 7 C "next_choice" p_Chooser_next_choice (cNext K C)) (k1 : Cls K C) : FnOk P w K mg base (L2.CX P w) 12 f fd p_law (spOf K 1 cLaw) := by
  refine fn_rule F sc_law fun X hX ds M Q E hl0 hc0 => ?_
  have cf := hX.cf sc_law
  clear hX hl0 F
  obtain ⟨n0, n1, n2, n3, n4, n5, n6, n7, n8, n9, _⟩ := nms_law
  obtain ⟨b1, b2, b3, b4, b5, b6, b7, b8, b9, b10, b11, b12, b13, b14, b15, b16, b17, b18, b19⟩ := B
  refine body_p hc0 fun Q' E' ⟨script, e, hq⟩ => ?_
  clear hc0
  subst e
  wtm_at "sl in"
  refine' sj_cons (s1_fr (js := [1]) cf (fun i st' M' => ∃ (a b c d e f g h i : Option D), st' = [some (.fz (script.map .int)), a, b, c, d, e, f, g, h, i]) ?_)
  wtm_at "sl"
  refine ctj_p ⟨script, 0, rfl, by omega, fun z => ?_⟩
  wtm_at "sl"
  refine od_catL (by have := cut15 (script.map D.int); simp; omega) ?_
  refine ⟨_, .inl rfl, ⟨_, _, _, _, _, _, _, _, _, rfl⟩, fun i x st' M' hx ⟨a, b, c, d, e, f, g, h, j, e1⟩ => ?_, fun st' M' ⟨a, b, c, d, e, f, g, h, j, e1⟩ => ?_⟩
  · subst e1
    obtain ⟨y, rfl⟩ : ∃ y, x = .int y := by
      have := List.mem_of_getElem? hx
      rcases List.mem_append.mp this with h | h
      · exact ⟨z, List.mem_singleton.mp h⟩
      · exact cut_ints h
    wtm_at "sl"
    refine ctj_g [] M' (List.Perm.refl _) ⟨y, rfl, rfl, fun p o ho => ?_⟩
    wtm_at "sl"
    refine ctj_l 0 rfl ⟨6, rfl, ho, by omega, by omega, fun ns0 o1 hl1 hz1 ho1 => ?_⟩
    wtm_at "sl"
    refine use_pick 0 rfl ho1 rfl (by simp) (by simp) fun e2 o2 he ho2 => ?_
    obtain ⟨w1, rfl, hw1, hw2⟩ : ∃ z, e2 = .int z ∧ 2 ≤ z ∧ z ≤ 7 := by
      simp only [List.mem_cons, List.not_mem_nil, or_false] at he
      rcases he with rfl | rfl | rfl <;> exact ⟨_, rfl, by omega, by omega⟩
    wtm_at "sl"
    refine od_catL (by simp; omega) ?_
    obtain ⟨G, nt, e3⟩ : ∃ G nt, ns0 ++ [w1] = G :: nt := by
      cases ns0 with
      | nil => exact ⟨w1, [], rfl⟩
      | cons x xs => exact ⟨x, xs ++ [w1], rfl⟩
    have hz : ∀ z ∈ G :: nt, 2 ≤ z ∧ z ≤ 7 := fun z hz => by
      rw [← e3] at hz
      rcases List.mem_append.mp hz with h | h
      · exact hz1 z h
      · rw [List.mem_singleton.mp h]; exact ⟨hw1, hw2⟩
    have hl7 : (G :: nt).length ≤ 7 := by rw [← e3]; simp; omega
    rw [show (ns0.map D.int ++ [D.int w1]) = (G :: nt).map D.int by rw [← e3]; simp]
    clear e3
    have hG := hz G List.mem_cons_self
    have ok := schOk7 hz hl7
    wtm_at "sl"
    refine use_pick 0 rfl ho2 rfl (by simp) (by simp) fun e4 o3 he4 ho3 => ?_
    obtain ⟨wd, rfl, hd1, hd2⟩ : ∃ z, e4 = .int z ∧ 2 ≤ z ∧ z ≤ 10 ^ 20 := by
      simp only [List.mem_cons, List.not_mem_nil, or_false] at he4
      rcases he4 with rfl | rfl | rfl <;> exact ⟨_, rfl, by omega, by omega⟩
    wtm_at "sl"
    refine ctj_l 0 rfl ⟨9, wd, rfl, ho3, by omega, by omega, by omega, by omega, fun cs o4 hcl hc ho4 => ?_⟩
    have hcs : ∀ z ∈ cs, 0 ≤ z ∧ z ≤ 10 ^ 20 := fun z hz => by have := hc z hz; omega
    have hcs0 : ∀ z ∈ cs, 0 ≤ z := fun z hz => (hc z hz).1
    wtm_at "sl"
    have hck : ∀ x : Str, x = lightS ∨ x = heavyS → chOk (.str x) = true := fun x hx => by
      simp only [chOk, isWord, List.mem_cons, List.not_mem_nil, or_false]
      rw [decide_eq_true hx, Bool.or_true]
    refine ej_frzI ?_
    refine ej_mkB (mk1 trivial) cf (by kernel_rfl) (by kernel_rfl) (by kernel_rfl) ?_
    wtm_at "sl"
    refine ⟨[.str lightS], .cons (.same _) .nil, rfl, fun a1 => ?_⟩
    refine ⟨fun d M' => d = .non ∧ M' = [(a1, .ins C [("strategy", .str lightS)])], fun _ _ => False, ⟨a1, _, rfl, rfl, ⟨⟨_, rfl⟩, fun es he => by cases he⟩, fun es he => by (cases he), ?_⟩, fun d M' ⟨e1, e2⟩ => ?_, fun _ _ h => h.elim⟩
    · rw [if_pos (hck _ (.inl rfl))]
      exact ⟨rfl, rfl⟩
    subst e1 e2
    refine ⟨rfl, fun q hq => ?_, ?_⟩
    · cases List.mem_singleton.mp hq; rfl
    refine ⟨_, _, _, _, rfl, rfl, ?_⟩
    wtm_at "sl"
    refine ej_frzI ?_
    refine ej_mkB (mk1 trivial) cf (by kernel_rfl) (by kernel_rfl) (by kernel_rfl) ?_
    wtm_at "sl"
    refine ⟨[.str heavyS], .cons (.same _) .nil, rfl, fun a2 => ?_⟩
    refine ⟨fun d M' => d = .non ∧ M' = [(a2, .ins C [("strategy", .str heavyS)])], fun _ _ => False, ⟨a2, _, rfl, rfl, ⟨⟨_, rfl⟩, fun es he => by cases he⟩, fun es he => by (cases he), ?_⟩, fun d M' ⟨e1, e2⟩ => ?_, fun _ _ h => h.elim⟩
    · rw [if_pos (hck _ (.inr rfl))]
      exact ⟨rfl, rfl⟩
    subst e1 e2
    refine ⟨rfl, fun q hq => ?_, ?_⟩
    · cases List.mem_singleton.mp hq; rfl
    refine ⟨_, _, _, _, rfl, rfl, ?_⟩
    wtm_at "sl"
    refine ⟨_, _, rfl, ?_⟩
    refine' sj_cons (s1_fr (js := [7]) cf (fun i st' M3 => ∃ (o' : MO) (a b c : Option D), st' = [some (.fz (script.map .int)), some (.int y), some (.raw (.ref p)), some (.lst ((G :: nt).map .int)), some (.tup (cs.map .int)), some (.ins C [("strategy", .str lightS)]), some (.ins C [("strategy", .str heavyS)]), a, b, c] ∧ M3 = (p, o') :: M' ∧ isSrc o') ?_)
    wtm_at "sl"
    refine ⟨6, rfl, ⟨by omega, by omega⟩, ⟨o4, _, _, _, rfl, rfl, ho4⟩, fun i x st' M3 hx ⟨o5, a, b, c, e1, e2, ho5⟩ => ?_, fun st' M3 ⟨o5, a, b, c, e1, e2, ho5⟩ => ?_⟩
    · subst e1 e2
      wtm_at "sl"
      refine id_lst (d := .int G) atI_zero ?_
      wtm_at "sl"
      refine ctj_l 0 rfl ⟨G, cs, rfl, ho5, by omega, by omega, by omega, hcs, fun cols o6 hcl6 hcols ho6 => ?_⟩
      obtain ⟨hv1, hv2⟩ := cols_right hcl6 hcols
      have hro := cols_rows hcl6 (by omega) (by omega) hcs hcols
      have hlen : (((List.range G.toNat).map fun (k : Nat) => D.tup ((colRow cols k).map .int)).length : Int) = G := by simp; omega
      clear hcols
      generalize ((List.range G.toNat).map fun (k : Nat) => D.tup ((colRow cols k).map .int)) = rows at hv1 hv2 hro hlen ⊢
      wtm_at "sl"
      refine use_take 0 rfl ho6 (by omega) (by omega) fun r o7 hr1 hr2 ho7 => ?_
      wtm_at "sl"
      refine use_nextS rfl ⟨_, rfl⟩ (by omega) (fun z h => (hz z h).1) (by omega) (by omega) hcs0 hlen hv2 hv1 hr1 ok hro fun kk1 hk1 => ?_
      wtm_at "sl"
      refine ctj_p ⟨G :: nt, rows, true, rfl, ok, hro, by omega, fun kk2 hk2 => ?_⟩
      wtm_at "sl"
      rw [if_pos rfl] at hk1 hk2
      have hkk := hk1.uniq hk2
      subst hkk
      rw [if_neg (by simp)]
      wtm_at "sl"
      refine use_nextS rfl ⟨_, rfl⟩ (by omega) (fun z h => (hz z h).1) (by omega) (by omega) hcs0 hlen hv2 hv1 hr1 ok hro fun kk3 hk3 => ?_
      wtm_at "sl"
      refine ctj_p ⟨G :: nt, rows, false, rfl, ok, hro, by omega, fun kk4 hk4 => ?_⟩
      wtm_at "sl"
      rw [if_neg (by decide)] at hk3 hk4
      have hkk := hk3.uniq hk4
      subst hkk
      rw [if_neg (by simp)]
      wtm_at "sl"
      refine cd_tuple_lst ?_
      wtm_at "sl"
      refine use_nextS rfl ⟨_, rfl⟩ (by omega) (fun z h => (hz z h).1) (by omega) (by omega) hcs0 hlen hv2 hv1 (by omega) ok hro fun kk5 hk5 => ?_
      wtm_at "sl"
      refine ctj_p ⟨G :: nt, rows, true, rfl, ok, hro, by omega, fun kk6 hk6 => ?_⟩
      wtm_at "sl"
      rw [if_pos rfl] at hk5 hk6
      have hkk := hk5.uniq hk6
      subst hkk
      rw [if_neg (by simp)]
      wtm_at "sl"
      exact ⟨o7, _, _, _, rfl, rfl, ho7⟩
    · subst e1 e2
      wtm_at "sl"
      refine ctj_l 0 rfl ⟨G :: nt, cs, rfl, ho5, by omega, hz, by omega, hcs, fun o6 ho6 => ?_⟩
      wtm_at "sl"
      exact ⟨_, _, _, _, _, _, _, _, _, rfl⟩
  · subst e1
    wtm_at "sl"
    exact ⟨[], by simp, rfl, hq⟩

end
end SL

set_option maxHeartbeats 0
namespace SL
open PySem PySem.Spec PyProof.Rows L2 Evl
/-! ### the head: facts by names, the run -/
def d_l_cell_at : He.DefD := ⟨("_law_cell_at", none), "_law_cell_at", "_law_cell_at", defArgs s_l_cell_at, defBody s_l_cell_at, defScope s_l_cell_at, [], []⟩
def d_l_source : He.DefD := ⟨("_law_source", none), "_law_source", "_law_source", defArgs s_l_source, defBody s_l_source, defScope s_l_source, [], []⟩
def d_l_take : He.DefD := ⟨("_law_take", none), "_law_take", "_law_take", defArgs s_l_take, defBody s_l_take, defScope s_l_take, [], []⟩
def d_l_pick : He.DefD := ⟨("_law_pick", none), "_law_pick", "_law_pick", defArgs s_l_pick, defBody s_l_pick, defScope s_l_pick, [], []⟩
def d_l_rounds : He.DefD := ⟨("_law_rounds", none), "_law_rounds", "_law_rounds", defArgs s_l_rounds, defBody s_l_rounds, defScope s_l_rounds, [], []⟩
def d_l_crowd : He.DefD := ⟨("_law_crowd", none), "_law_crowd", "_law_crowd", defArgs s_l_crowd, defBody s_l_crowd, defScope s_l_crowd, [], []⟩
def d_l_shuffled : He.DefD := ⟨("_law_shuffled", none), "_law_shuffled", "_law_shuffled", defArgs s_l_shuffled, defBody s_l_shuffled, defScope s_l_shuffled, [], []⟩
def d_l_parts : He.DefD := ⟨("_law_parts", none), "_law_parts", "_law_parts", defArgs s_l_parts, defBody s_l_parts, defScope s_l_parts, [], []⟩
def d_l_shares : He.DefD := ⟨("_law_shares", none), "_law_shares", "_law_shares", defArgs s_l_shares, defBody s_l_shares, defScope s_l_shares, [], []⟩
def d_l_scaled : He.DefD := ⟨("_law_scaled", none), "_law_scaled", "_law_scaled", defArgs s_l_scaled, defBody s_l_scaled, defScope s_l_scaled, [], []⟩
def d_l_extreme : He.DefD := ⟨("_law_extreme", none), "_law_extreme", "_law_extreme", defArgs s_l_extreme, defBody s_l_extreme, defScope s_l_extreme, [], []⟩
def d_l_path : He.DefD := ⟨("_law_path", none), "_law_path", "_law_path", defArgs s_l_path, defBody s_l_path, defScope s_l_path, [], []⟩
def d_l_even : He.DefD := ⟨("_law_even", none), "_law_even", "_law_even", defArgs s_l_even, defBody s_l_even, defScope s_l_even, [], []⟩
def d_is_sequence : He.DefD := ⟨("is_sequence", none), "is_sequence", "is_sequence", defArgs s_is_sequence, defBody s_is_sequence, defScope s_is_sequence, [], []⟩
def d_is_integer : He.DefD := ⟨("is_integer", none), "is_integer", "is_integer", defArgs s_is_integer, defBody s_is_integer, defScope s_is_integer, [], []⟩
def d_is_at_least : He.DefD := ⟨("is_at_least", none), "is_at_least", "is_at_least", defArgs s_is_at_least, defBody s_is_at_least, defScope s_is_at_least, [], []⟩
def d_is_word : He.DefD := ⟨("is_word", none), "is_word", "is_word", defArgs s_is_word, defBody s_is_word, defScope s_is_word, [], []⟩
def d_Chooser___init__ : He.DefD := ⟨("Chooser", some "__init__"), "__init__", "Chooser.__init__", defArgs s_Chooser___init__, defBody s_Chooser___init__, defScope s_Chooser___init__, [], []⟩
def d_require_schedule : He.DefD := ⟨("require_schedule", none), "require_schedule", "require_schedule", defArgs s_require_schedule, defBody s_require_schedule, defScope s_require_schedule, [], []⟩
def d_require_rounds : He.DefD := ⟨("require_rounds", none), "require_rounds", "require_rounds", defArgs s_require_rounds, defBody s_require_rounds, defScope s_require_rounds, [], []⟩
def d_is_group : He.DefD := ⟨("is_group", none), "is_group", "is_group", defArgs s_is_group, defBody s_is_group, defScope s_is_group, [], []⟩
def d_require_counts : He.DefD := ⟨("require_counts", none), "require_counts", "require_counts", defArgs s_require_counts, defBody s_require_counts, defScope s_require_counts, [], []⟩
def d_require_small_round : He.DefD := ⟨("require_small_round", none), "require_small_round", "require_small_round", defArgs s_require_small_round, defBody s_require_small_round, defScope s_require_small_round, [], []⟩
def d_require_split : He.DefD := ⟨("require_split", none), "require_split", "require_split", defArgs s_require_split, defBody s_require_split, defScope s_require_split, [], []⟩
def d_Chooser_has_list : He.DefD := ⟨("Chooser", some "has_list"), "has_list", "Chooser.has_list", defArgs s_Chooser_has_list, defBody s_Chooser_has_list, defScope s_Chooser_has_list, [], []⟩
def d_products : He.DefD := ⟨("products", none), "products", "products", defArgs s_products, defBody s_products, defScope s_products, [], []⟩
def d_scaled_weight : He.DefD := ⟨("scaled_weight", none), "scaled_weight", "scaled_weight", defArgs s_scaled_weight, defBody s_scaled_weight, defScope s_scaled_weight, [], []⟩
def d_group_weights : He.DefD := ⟨("group_weights", none), "group_weights", "group_weights", defArgs s_group_weights, defBody s_group_weights, defScope s_group_weights, [], []⟩
def d_lightest_group : He.DefD := ⟨("lightest_group", none), "lightest_group", "lightest_group", defArgs s_lightest_group, defBody s_lightest_group, defScope s_lightest_group, [], []⟩
def d_heaviest_group : He.DefD := ⟨("heaviest_group", none), "heaviest_group", "heaviest_group", defArgs s_heaviest_group, defBody s_heaviest_group, defScope s_heaviest_group, [], []⟩
def d_Chooser_next_choice : He.DefD := ⟨("Chooser", some "next_choice"), "next_choice", "Chooser.next_choice", defArgs s_Chooser_next_choice, defBody s_Chooser_next_choice, defScope s_Chooser_next_choice, [], []⟩
def d_l_list_right : He.DefD := ⟨("_law_list_right", none), "_law_list_right", "_law_list_right", defArgs s_l_list_right, defBody s_l_list_right, defScope s_l_list_right, [], []⟩
def d_law : He.DefD := ⟨("law", none), "law", "law", defArgs s_law, defBody s_law, defScope s_law, [], []⟩
def d_InvalidStrategy___init__ : He.DefD := ⟨("InvalidStrategy", some "__init__"), "__init__", "InvalidStrategy.__init__", defArgs s_InvalidStrategy___init__, defBody s_InvalidStrategy___init__, defScope s_InvalidStrategy___init__, [], []⟩
def d_InvalidSchedule___init__ : He.DefD := ⟨("InvalidSchedule", some "__init__"), "__init__", "InvalidSchedule.__init__", defArgs s_InvalidSchedule___init__, defBody s_InvalidSchedule___init__, defScope s_InvalidSchedule___init__, [], []⟩
def d_InvalidCounts___init__ : He.DefD := ⟨("InvalidCounts", some "__init__"), "__init__", "InvalidCounts.__init__", defArgs s_InvalidCounts___init__, defBody s_InvalidCounts___init__, defScope s_InvalidCounts___init__, [], []⟩
def d_TooLarge___init__ : He.DefD := ⟨("TooLarge", some "__init__"), "__init__", "TooLarge.__init__", defArgs s_TooLarge___init__, defBody s_TooLarge___init__, defScope s_TooLarge___init__, [], []⟩
def d_InvalidSplit___init__ : He.DefD := ⟨("InvalidSplit", some "__init__"), "__init__", "InvalidSplit.__init__", defArgs s_InvalidSplit___init__, defBody s_InvalidSplit___init__, defScope s_InvalidSplit___init__, [], []⟩
def d_InvalidNumber___init__ : He.DefD := ⟨("InvalidNumber", some "__init__"), "__init__", "InvalidNumber.__init__", defArgs s_InvalidNumber___init__, defBody s_InvalidNumber___init__, defScope s_InvalidNumber___init__, [], []⟩
def d_InvalidGroup___init__ : He.DefD := ⟨("InvalidGroup", some "__init__"), "__init__", "InvalidGroup.__init__", defArgs s_InvalidGroup___init__, defBody s_InvalidGroup___init__, defScope s_InvalidGroup___init__, [], []⟩
def hfn : List He.DefD := [d_l_cell_at, d_l_source, d_l_take, d_l_pick, d_l_rounds, d_l_crowd, d_l_shuffled, d_l_parts, d_l_shares, d_l_scaled, d_l_extreme, d_l_path, d_l_even, d_is_sequence, d_is_integer, d_is_at_least, d_is_word, d_Chooser___init__, d_require_schedule, d_require_rounds, d_is_group, d_require_counts, d_require_small_round, d_require_split, d_Chooser_has_list, d_products, d_scaled_weight, d_group_weights, d_lightest_group, d_heaviest_group, d_Chooser_next_choice, d_l_list_right, d_law, d_InvalidStrategy___init__, d_InvalidSchedule___init__, d_InvalidCounts___init__, d_TooLarge___init__, d_InvalidSplit___init__, d_InvalidNumber___init__, d_InvalidGroup___init__]
def hfa1 : List He.Fa := [.glo "_law_cell_at", .glo "_law_source", .glo "_law_take", .glo "_law_pick", .glo "_law_rounds", .glo "_law_crowd", .glo "_law_shuffled", .glo "_law_parts", .glo "_law_shares", .glo "_law_scaled", .glo "_law_extreme", .glo "_law_path", .glo "_law_even", .glo "is_sequence", .glo "is_integer", .glo "is_at_least", .glo "is_word", .glo "require_schedule", .glo "require_rounds", .glo "is_group", .glo "require_counts", .glo "require_small_round", .glo "require_split", .glo "products", .glo "scaled_weight", .glo "group_weights", .glo "lightest_group", .glo "heaviest_group", .glo "_law_list_right", .glo "law"]
def hfa2 : List He.Fa := [.glo "InvalidStrategy", .glo "InvalidSchedule", .glo "InvalidCounts", .glo "TooLarge", .glo "InvalidSplit", .glo "InvalidNumber", .glo "InvalidGroup", .glo "Chooser", .cls "Chooser", .noat "Chooser" "strategy", .mkr "Chooser", .meth "Chooser" "has_list", .meth "Chooser" "next_choice", .str "LIGHTEST" "lightest", .str "HEAVIEST" "heaviest", .int "MAX_ROUNDS" 200, .int "MAX_GROUPS" 1000, .free "isinstance", .free "len", .free "sum", .free "all", .free "any", .free "max", .free "min", .free "abs", .free "sorted", .free "repr", .free "int", .free "list", .free "tuple", .free "str", .free "bool", .free "range", .free "enumerate", .free "zip", .free "reversed"]
def hfa : List He.Fa := hfa1 ++ hfa2
def hxs : List (PySem.W.Frag → Bool) := [xcB "InvalidStrategy" "strategy", xcB "InvalidSchedule" "index", xcB "InvalidCounts" "counts", xcB "TooLarge" "limit", xcB "InvalidSplit" "index", xcB "InvalidNumber" "name", xcB "InvalidGroup" "group"]
abbrev HR : PySem.W.OpenRow := PySem.W.OpenLaw.row PySem.Challenge.rw_splitclimb_k33_choices_by_rules
abbrev hk : PySem.W.Hook := hookX 4 hxs hfa hfn
def hob (s : PySem.W.SharedT) : He.AlD × Bool := obsXG 4 hxs hfa hfn (HandSHeadRun.getT s)
theorem hob_eq (s : PySem.W.SharedT) : hob s = hk.obs s.abs := obsXG_eq (HandSHeadRun.getT_eq s)
def hloose : List Str := (["_wall", "__name__", "ClimbError", "InvalidSchedule", "InvalidCounts", "InvalidSplit", "InvalidGroup", "InvalidNumber", "InvalidStrategy", "TooLarge", "is_integer", "is_at_least", "MAX_ROUNDS", "MAX_GROUPS", "require_schedule", "require_rounds", "is_group", "require_counts", "require_small_round", "require_split", "products", "scaled_weight", "group_weights", "lightest_group", "heaviest_group", "LIGHTEST", "HEAVIEST", "is_word", "is_sequence", "Chooser"] : List Str) ++ (["_law_cell_at", "_law_source", "_law_take", "_law_pick", "_law_shuffled", "_law_rounds", "_law_crowd", "_law_shares", "_law_scaled", "_law_path", "_law_even", "_law_parts", "_law_extreme", "_law_list_right"] : List Str)
theorem hrun (w : World) : HandSHeadRun.RunEq HR (PySem.W.view HR.prog [49]) hk hob 6000 hloose w := by
  intro os
  kernel_rfl
theorem bindsI {K : PySem.W.Frag} {nm qual : Str} {params : Arguments} {body : List Stmt} {scope : Scope} {f : Addr} {fd : FuncData} (F : FunD K nm qual params body scope [] [] f fd) : True := trivial
theorem hfacts {P : Program} {w : World} {K : PySem.W.Frag} {h : Heap} {mg : Str → Option Value} {f : Addr} (X : K.In h) (G : h.Ns mainGlobals mg) (hfa0 : mg ("law" : Str) = some (.ref f)) (c0 : SaysX hxs hfa hfn K) :
    ∃ fd : FuncData, (∀ (s : Shared) (v : Value), BindsTo s fd ⟨[v], []⟩ [("_law_script", v)]) ∧ ∀ base : Heap, K.In base → base.Ns mainGlobals mg → FnOk P w K mg base (L2.CX P w) 12 f fd ["_law_script"] (spOf K 1 cLaw) := by
  have c := c0.says
  obtain ⟨fd_l_cell_at, F_l_cell_at⟩ := c.def_ 0 (d := d_l_cell_at) rfl
  obtain ⟨fd_l_source, F_l_source⟩ := c.def_ 1 (d := d_l_source) rfl
  obtain ⟨fd_l_take, F_l_take⟩ := c.def_ 2 (d := d_l_take) rfl
  obtain ⟨fd_l_pick, F_l_pick⟩ := c.def_ 3 (d := d_l_pick) rfl
  obtain ⟨fd_l_rounds, F_l_rounds⟩ := c.def_ 4 (d := d_l_rounds) rfl
  obtain ⟨fd_l_crowd, F_l_crowd⟩ := c.def_ 5 (d := d_l_crowd) rfl
  obtain ⟨fd_l_shuffled, F_l_shuffled⟩ := c.def_ 6 (d := d_l_shuffled) rfl
  obtain ⟨fd_l_parts, F_l_parts⟩ := c.def_ 7 (d := d_l_parts) rfl
  obtain ⟨fd_l_shares, F_l_shares⟩ := c.def_ 8 (d := d_l_shares) rfl
  obtain ⟨fd_l_scaled, F_l_scaled⟩ := c.def_ 9 (d := d_l_scaled) rfl
  obtain ⟨fd_l_extreme, F_l_extreme⟩ := c.def_ 10 (d := d_l_extreme) rfl
  obtain ⟨fd_l_path, F_l_path⟩ := c.def_ 11 (d := d_l_path) rfl
  obtain ⟨fd_l_even, F_l_even⟩ := c.def_ 12 (d := d_l_even) rfl
  obtain ⟨fd_is_sequence, F_is_sequence⟩ := c.def_ 13 (d := d_is_sequence) rfl
  obtain ⟨fd_is_integer, F_is_integer⟩ := c.def_ 14 (d := d_is_integer) rfl
  obtain ⟨fd_is_at_least, F_is_at_least⟩ := c.def_ 15 (d := d_is_at_least) rfl
  obtain ⟨fd_is_word, F_is_word⟩ := c.def_ 16 (d := d_is_word) rfl
  obtain ⟨fd_Chooser___init__, F_Chooser___init__⟩ := c.def_ 17 (d := d_Chooser___init__) rfl
  obtain ⟨fd_require_schedule, F_require_schedule⟩ := c.def_ 18 (d := d_require_schedule) rfl
  obtain ⟨fd_require_rounds, F_require_rounds⟩ := c.def_ 19 (d := d_require_rounds) rfl
  obtain ⟨fd_is_group, F_is_group⟩ := c.def_ 20 (d := d_is_group) rfl
  obtain ⟨fd_require_counts, F_require_counts⟩ := c.def_ 21 (d := d_require_counts) rfl
  obtain ⟨fd_require_small_round, F_require_small_round⟩ := c.def_ 22 (d := d_require_small_round) rfl
  obtain ⟨fd_require_split, F_require_split⟩ := c.def_ 23 (d := d_require_split) rfl
  obtain ⟨fd_Chooser_has_list, F_Chooser_has_list⟩ := c.def_ 24 (d := d_Chooser_has_list) rfl
  obtain ⟨fd_products, F_products⟩ := c.def_ 25 (d := d_products) rfl
  obtain ⟨fd_scaled_weight, F_scaled_weight⟩ := c.def_ 26 (d := d_scaled_weight) rfl
  obtain ⟨fd_group_weights, F_group_weights⟩ := c.def_ 27 (d := d_group_weights) rfl
  obtain ⟨fd_lightest_group, F_lightest_group⟩ := c.def_ 28 (d := d_lightest_group) rfl
  obtain ⟨fd_heaviest_group, F_heaviest_group⟩ := c.def_ 29 (d := d_heaviest_group) rfl
  obtain ⟨fd_Chooser_next_choice, F_Chooser_next_choice⟩ := c.def_ 30 (d := d_Chooser_next_choice) rfl
  obtain ⟨fd_l_list_right, F_l_list_right⟩ := c.def_ 31 (d := d_l_list_right) rfl
  obtain ⟨fd_law, F_law⟩ := c.def_ 32 (d := d_law) rfl
  obtain ⟨fd_InvalidStrategy___init__, F_InvalidStrategy___init__⟩ := c.def_ 33 (d := d_InvalidStrategy___init__) rfl
  obtain ⟨fd_InvalidSchedule___init__, F_InvalidSchedule___init__⟩ := c.def_ 34 (d := d_InvalidSchedule___init__) rfl
  obtain ⟨fd_InvalidCounts___init__, F_InvalidCounts___init__⟩ := c.def_ 35 (d := d_InvalidCounts___init__) rfl
  obtain ⟨fd_TooLarge___init__, F_TooLarge___init__⟩ := c.def_ 36 (d := d_TooLarge___init__) rfl
  obtain ⟨fd_InvalidSplit___init__, F_InvalidSplit___init__⟩ := c.def_ 37 (d := d_InvalidSplit___init__) rfl
  obtain ⟨fd_InvalidNumber___init__, F_InvalidNumber___init__⟩ := c.def_ 38 (d := d_InvalidNumber___init__) rfl
  obtain ⟨fd_InvalidGroup___init__, F_InvalidGroup___init__⟩ := c.def_ 39 (d := d_InvalidGroup___init__) rfl
  have e := hfa0.symm.trans (He.glo_ok X G (c.fact 29 (f := .glo "law") rfl))
  cases e
  have b := FunD.bindsA (ps := ["_law_script"]) F_law fun _ _ _ _ _ _ us hl => match us, hl with | [_], _ => rfl
  refine ⟨fd_law, fun s v => b s [v] rfl, fun base _ _ => ?_⟩
  have B : Bs mg := ⟨⟨He.free_ok X G (c.fact 47 (f := .free "isinstance") rfl), rfl, by decide, by decide⟩, ⟨He.free_ok X G (c.fact 48 (f := .free "len") rfl), rfl, by decide, by decide⟩, ⟨He.free_ok X G (c.fact 49 (f := .free "sum") rfl), rfl, by decide, by decide⟩, ⟨He.free_ok X G (c.fact 50 (f := .free "all") rfl), rfl, by decide, by decide⟩, ⟨He.free_ok X G (c.fact 51 (f := .free "any") rfl), rfl, by decide, by decide⟩, ⟨He.free_ok X G (c.fact 52 (f := .free "max") rfl), rfl, by decide, by decide⟩, ⟨He.free_ok X G (c.fact 53 (f := .free "min") rfl), rfl, by decide, by decide⟩, ⟨He.free_ok X G (c.fact 54 (f := .free "abs") rfl), rfl, by decide, by decide⟩, ⟨He.free_ok X G (c.fact 55 (f := .free "sorted") rfl), rfl, by decide, by decide⟩, ⟨He.free_ok X G (c.fact 56 (f := .free "repr") rfl), rfl, by decide, by decide⟩, ⟨He.free_ok X G (c.fact 57 (f := .free "int") rfl), rfl, by decide, by decide⟩, ⟨He.free_ok X G (c.fact 58 (f := .free "list") rfl), rfl, by decide, by decide⟩, ⟨He.free_ok X G (c.fact 59 (f := .free "tuple") rfl), rfl, by decide, by decide⟩, ⟨He.free_ok X G (c.fact 60 (f := .free "str") rfl), rfl, by decide, by decide⟩, ⟨He.free_ok X G (c.fact 61 (f := .free "bool") rfl), rfl, by decide, by decide⟩, ⟨He.free_ok X G (c.fact 62 (f := .free "range") rfl), rfl, by decide, by decide⟩, He.free_ok X G (c.fact 63 (f := .free "enumerate") rfl), He.free_ok X G (c.fact 64 (f := .free "zip") rfl), He.free_ok X G (c.fact 65 (f := .free "reversed") rfl)⟩
  have c_LIGHTEST : Cn mg "LIGHTEST" (.str lightS) := Cn.str (He.str_ok X G (c.fact 43 (f := .str "LIGHTEST" "lightest") rfl)) (by decide)
  have c_HEAVIEST : Cn mg "HEAVIEST" (.str heavyS) := Cn.str (He.str_ok X G (c.fact 44 (f := .str "HEAVIEST" "heaviest") rfl)) (by decide)
  have c_MAX_ROUNDS : Cn mg "MAX_ROUNDS" (.int 200) := Cn.int (He.int_ok X G (c.fact 45 (f := .int "MAX_ROUNDS" 200) rfl)) (by decide)
  have c_MAX_GROUPS : Cn mg "MAX_GROUPS" (.int 1000) := Cn.int (He.int_ok X G (c.fact 46 (f := .int "MAX_GROUPS" 1000) rfl)) (by decide)
  have xc_InvalidStrategy := xcB_ok (c0.own (g := xcB "InvalidStrategy" "strategy") (by unfold hxs; simp only [List.mem_cons, true_or, or_true]))
  have x_InvalidStrategy : ExcI P w K mg base "InvalidStrategy" "strategy" (He.ga K "InvalidStrategy") := ⟨He.glo_ok X G (c.fact 30 (f := .glo "InvalidStrategy") rfl), _, fd_InvalidStrategy___init__, xc_InvalidStrategy, init_ok F_InvalidStrategy___init__ sc_InvalidStrategy___init__ rfl xc_InvalidStrategy.T xc_InvalidStrategy.no (.inl (by kernel_rfl)) (.inl (by kernel_rfl)) (by decide) (by decide) (fun _ => rfl), FunD.bindsN F_InvalidStrategy___init__ fun _ _ _ _ _ _ us hl => match us, hl with | [_, _], _ => rfl⟩
  have xc_InvalidSchedule := xcB_ok (c0.own (g := xcB "InvalidSchedule" "index") (by unfold hxs; simp only [List.mem_cons, true_or, or_true]))
  have x_InvalidSchedule : ExcI P w K mg base "InvalidSchedule" "index" (He.ga K "InvalidSchedule") := ⟨He.glo_ok X G (c.fact 31 (f := .glo "InvalidSchedule") rfl), _, fd_InvalidSchedule___init__, xc_InvalidSchedule, init_ok F_InvalidSchedule___init__ sc_InvalidSchedule___init__ rfl xc_InvalidSchedule.T xc_InvalidSchedule.no (.inl (by kernel_rfl)) (.inl (by kernel_rfl)) (by decide) (by decide) (fun _ => rfl), FunD.bindsN F_InvalidSchedule___init__ fun _ _ _ _ _ _ us hl => match us, hl with | [_, _], _ => rfl⟩
  have xc_InvalidCounts := xcB_ok (c0.own (g := xcB "InvalidCounts" "counts") (by unfold hxs; simp only [List.mem_cons, true_or, or_true]))
  have x_InvalidCounts : ExcI P w K mg base "InvalidCounts" "counts" (He.ga K "InvalidCounts") := ⟨He.glo_ok X G (c.fact 32 (f := .glo "InvalidCounts") rfl), _, fd_InvalidCounts___init__, xc_InvalidCounts, init_ok F_InvalidCounts___init__ sc_InvalidCounts___init__ rfl xc_InvalidCounts.T xc_InvalidCounts.no (.inl (by kernel_rfl)) (.inl (by kernel_rfl)) (by decide) (by decide) (fun _ => rfl), FunD.bindsN F_InvalidCounts___init__ fun _ _ _ _ _ _ us hl => match us, hl with | [_, _], _ => rfl⟩
  have xc_TooLarge := xcB_ok (c0.own (g := xcB "TooLarge" "limit") (by unfold hxs; simp only [List.mem_cons, true_or, or_true]))
  have x_TooLarge : ExcI P w K mg base "TooLarge" "limit" (He.ga K "TooLarge") := ⟨He.glo_ok X G (c.fact 33 (f := .glo "TooLarge") rfl), _, fd_TooLarge___init__, xc_TooLarge, init_ok F_TooLarge___init__ sc_TooLarge___init__ rfl xc_TooLarge.T xc_TooLarge.no (.inl (by kernel_rfl)) (.inl (by kernel_rfl)) (by decide) (by decide) (fun _ => rfl), FunD.bindsN F_TooLarge___init__ fun _ _ _ _ _ _ us hl => match us, hl with | [_, _], _ => rfl⟩
  have xc_InvalidSplit := xcB_ok (c0.own (g := xcB "InvalidSplit" "index") (by unfold hxs; simp only [List.mem_cons, true_or, or_true]))
  have x_InvalidSplit : ExcI P w K mg base "InvalidSplit" "index" (He.ga K "InvalidSplit") := ⟨He.glo_ok X G (c.fact 34 (f := .glo "InvalidSplit") rfl), _, fd_InvalidSplit___init__, xc_InvalidSplit, init_ok F_InvalidSplit___init__ sc_InvalidSplit___init__ rfl xc_InvalidSplit.T xc_InvalidSplit.no (.inl (by kernel_rfl)) (.inl (by kernel_rfl)) (by decide) (by decide) (fun _ => rfl), FunD.bindsN F_InvalidSplit___init__ fun _ _ _ _ _ _ us hl => match us, hl with | [_, _], _ => rfl⟩
  have xc_InvalidNumber := xcB_ok (c0.own (g := xcB "InvalidNumber" "name") (by unfold hxs; simp only [List.mem_cons, true_or, or_true]))
  have x_InvalidNumber : ExcI P w K mg base "InvalidNumber" "name" (He.ga K "InvalidNumber") := ⟨He.glo_ok X G (c.fact 35 (f := .glo "InvalidNumber") rfl), _, fd_InvalidNumber___init__, xc_InvalidNumber, init_ok F_InvalidNumber___init__ sc_InvalidNumber___init__ rfl xc_InvalidNumber.T xc_InvalidNumber.no (.inl (by kernel_rfl)) (.inl (by kernel_rfl)) (by decide) (by decide) (fun _ => rfl), FunD.bindsN F_InvalidNumber___init__ fun _ _ _ _ _ _ us hl => match us, hl with | [_, _], _ => rfl⟩
  have xc_InvalidGroup := xcB_ok (c0.own (g := xcB "InvalidGroup" "group") (by unfold hxs; simp only [List.mem_cons, true_or, or_true]))
  have x_InvalidGroup : ExcI P w K mg base "InvalidGroup" "group" (He.ga K "InvalidGroup") := ⟨He.glo_ok X G (c.fact 36 (f := .glo "InvalidGroup") rfl), _, fd_InvalidGroup___init__, xc_InvalidGroup, init_ok F_InvalidGroup___init__ sc_InvalidGroup___init__ rfl xc_InvalidGroup.T xc_InvalidGroup.no (.inl (by kernel_rfl)) (.inl (by kernel_rfl)) (by decide) (by decide) (fun _ => rfl), FunD.bindsN F_InvalidGroup___init__ fun _ _ _ _ _ _ us hl => match us, hl with | [_, _], _ => rfl⟩
  have k_Chooser : Cls K (He.ga K "Chooser") := He.cls_ok (c.fact 38 (f := .cls "Chooser") rfl)
  have na_Chooser : NoAttr K (He.ga K "Chooser") "strategy" := He.noat_ok (c.fact 39 (f := .noat "Chooser" "strategy") rfl)
  have mk0_Chooser := He.mkr_ok (c.fact 40 (f := .mkr "Chooser") rfl)
  have i_l_cell_at : FnI P w K mg base 1 "_law_cell_at" p_l_cell_at cCellAt := ⟨⟨_, fd_l_cell_at, He.glo_ok X G (c.fact 0 (f := .glo "_law_cell_at") rfl), (f_l_cell_at F_l_cell_at B ), FunD.bindsN F_l_cell_at fun _ _ _ _ _ _ us hl => match us, hl with | [_, _], _ => rfl, F_l_cell_at.kp⟩⟩
  have i_l_source : FnI P w K mg base 1 "_law_source" p_l_source cSource := ⟨⟨_, fd_l_source, He.glo_ok X G (c.fact 1 (f := .glo "_law_source") rfl), (f_l_source F_l_source B ), FunD.bindsN F_l_source fun _ _ _ _ _ _ us hl => match us, hl with | [_], _ => rfl, F_l_source.kp⟩⟩
  have i_l_take : FnI P w K mg base 1 "_law_take" p_l_take cTake := ⟨⟨_, fd_l_take, He.glo_ok X G (c.fact 2 (f := .glo "_law_take") rfl), (f_l_take F_l_take B ), FunD.bindsN F_l_take fun _ _ _ _ _ _ us hl => match us, hl with | [_, _], _ => rfl, F_l_take.kp⟩⟩
  have i_l_pick : FnI P w K mg base 2 "_law_pick" p_l_pick cPick := ⟨⟨_, fd_l_pick, He.glo_ok X G (c.fact 3 (f := .glo "_law_pick") rfl), (f_l_pick F_l_pick B i_l_take), FunD.bindsN F_l_pick fun _ _ _ _ _ _ us hl => match us, hl with | [_, _], _ => rfl, F_l_pick.kp⟩⟩
  have i_l_rounds : FnI P w K mg base 3 "_law_rounds" p_l_rounds cRounds := ⟨⟨_, fd_l_rounds, He.glo_ok X G (c.fact 4 (f := .glo "_law_rounds") rfl), (f_l_rounds F_l_rounds B i_l_take i_l_pick), FunD.bindsN F_l_rounds fun _ _ _ _ _ _ us hl => match us, hl with | [_, _], _ => rfl, F_l_rounds.kp⟩⟩
  have i_l_crowd : FnI P w K mg base 3 "_law_crowd" p_l_crowd cCrowd := ⟨⟨_, fd_l_crowd, He.glo_ok X G (c.fact 5 (f := .glo "_law_crowd") rfl), (f_l_crowd F_l_crowd B i_l_take i_l_pick), FunD.bindsN F_l_crowd fun _ _ _ _ _ _ us hl => match us, hl with | [_, _, _], _ => rfl, F_l_crowd.kp⟩⟩
  have i_l_shuffled : FnI P w K mg base 2 "_law_shuffled" p_l_shuffled cShuf := ⟨⟨_, fd_l_shuffled, He.glo_ok X G (c.fact 6 (f := .glo "_law_shuffled") rfl), (f_l_shuffled F_l_shuffled B i_l_take), FunD.bindsN F_l_shuffled fun _ _ _ _ _ _ us hl => match us, hl with | [_, _], _ => rfl, F_l_shuffled.kp⟩⟩
  have i_l_parts : FnI P w K mg base 3 "_law_parts" p_l_parts cParts := ⟨⟨_, fd_l_parts, He.glo_ok X G (c.fact 7 (f := .glo "_law_parts") rfl), (f_l_parts F_l_parts B i_l_take i_l_pick i_l_shuffled), FunD.bindsN F_l_parts fun _ _ _ _ _ _ us hl => match us, hl with | [_, _, _], _ => rfl, F_l_parts.kp⟩⟩
  have i_l_shares : FnI P w K mg base 1 "_law_shares" p_l_shares cShares := ⟨⟨_, fd_l_shares, He.glo_ok X G (c.fact 8 (f := .glo "_law_shares") rfl), (f_l_shares F_l_shares B ), FunD.bindsN F_l_shares fun _ _ _ _ _ _ us hl => match us, hl with | [_], _ => rfl, F_l_shares.kp⟩⟩
  have i_l_scaled : FnI P w K mg base 2 "_law_scaled" p_l_scaled cScaledL := ⟨⟨_, fd_l_scaled, He.glo_ok X G (c.fact 9 (f := .glo "_law_scaled") rfl), (f_l_scaled F_l_scaled B i_l_shares), FunD.bindsN F_l_scaled fun _ _ _ _ _ _ us hl => match us, hl with | [_, _], _ => rfl, F_l_scaled.kp⟩⟩
  have i_l_extreme : FnI P w K mg base 3 "_law_extreme" p_l_extreme cExtL := ⟨⟨_, fd_l_extreme, He.glo_ok X G (c.fact 10 (f := .glo "_law_extreme") rfl), (f_l_extreme F_l_extreme B i_l_scaled), FunD.bindsN F_l_extreme fun _ _ _ _ _ _ us hl => match us, hl with | [_, _, _], _ => rfl, F_l_extreme.kp⟩⟩
  have i_l_path : FnI P w K mg base 2 "_law_path" p_l_path cPath := ⟨⟨_, fd_l_path, He.glo_ok X G (c.fact 11 (f := .glo "_law_path") rfl), (f_l_path F_l_path B i_l_take), FunD.bindsN F_l_path fun _ _ _ _ _ _ us hl => match us, hl with | [_, _], _ => rfl, F_l_path.kp⟩⟩
  have i_l_even : FnI P w K mg base 1 "_law_even" p_l_even cEven := ⟨⟨_, fd_l_even, He.glo_ok X G (c.fact 12 (f := .glo "_law_even") rfl), (f_l_even F_l_even B ), FunD.bindsN F_l_even fun _ _ _ _ _ _ us hl => match us, hl with | [_, _], _ => rfl, F_l_even.kp⟩⟩
  have i_is_sequence : FnI P w K mg base 1 "is_sequence" p_is_sequence cIsSeq := ⟨⟨_, fd_is_sequence, He.glo_ok X G (c.fact 13 (f := .glo "is_sequence") rfl), (f_is_sequence F_is_sequence B ), FunD.bindsN F_is_sequence fun _ _ _ _ _ _ us hl => match us, hl with | [_], _ => rfl, F_is_sequence.kp⟩⟩
  have i_is_integer : FnI P w K mg base 1 "is_integer" p_is_integer cIsInt := ⟨⟨_, fd_is_integer, He.glo_ok X G (c.fact 14 (f := .glo "is_integer") rfl), (f_is_integer F_is_integer B ), FunD.bindsN F_is_integer fun _ _ _ _ _ _ us hl => match us, hl with | [_], _ => rfl, F_is_integer.kp⟩⟩
  have i_is_at_least : FnI P w K mg base 2 "is_at_least" p_is_at_least cAtLeast := ⟨⟨_, fd_is_at_least, He.glo_ok X G (c.fact 15 (f := .glo "is_at_least") rfl), (f_is_at_least F_is_at_least B i_is_integer), FunD.bindsN F_is_at_least fun _ _ _ _ _ _ us hl => match us, hl with | [_, _], _ => rfl, F_is_at_least.kp⟩⟩
  have i_is_word : FnI P w K mg base 1 "is_word" p_is_word cIsWord := ⟨⟨_, fd_is_word, He.glo_ok X G (c.fact 16 (f := .glo "is_word") rfl), (f_is_word F_is_word B ), FunD.bindsN F_is_word fun _ _ _ _ _ _ us hl => match us, hl with | [_, _], _ => rfl, F_is_word.kp⟩⟩
  have i0_Chooser___init__ := (f_Chooser___init__ F_Chooser___init__ B i_is_sequence i_is_at_least i_is_word c_LIGHTEST c_HEAVIEST x_InvalidStrategy k_Chooser na_Chooser)
  have i_Chooser___init__ : MkI P w K mg base 7 "Chooser" (He.ga K "Chooser") p_Chooser___init__ (cChInit K (He.ga K "Chooser")) := ⟨⟨_, fd_Chooser___init__, He.glo_ok X G (c.fact 37 (f := .glo "Chooser") rfl), mk0_Chooser, i0_Chooser___init__.mono (by decide), FunD.bindsN F_Chooser___init__ fun _ _ _ _ _ _ us hl => match us, hl with | [_, _], _ => rfl⟩⟩
  have i_require_schedule : FnI P w K mg base 3 "require_schedule" p_require_schedule (cReqSched K) := ⟨⟨_, fd_require_schedule, He.glo_ok X G (c.fact 17 (f := .glo "require_schedule") rfl), (f_require_schedule F_require_schedule B i_is_at_least c_MAX_ROUNDS x_InvalidSchedule), FunD.bindsN F_require_schedule fun _ _ _ _ _ _ us hl => match us, hl with | [_], _ => rfl, F_require_schedule.kp⟩⟩
  have i_require_rounds : FnI P w K mg base 4 "require_rounds" p_require_rounds (cReqRounds K) := ⟨⟨_, fd_require_rounds, He.glo_ok X G (c.fact 18 (f := .glo "require_rounds") rfl), (f_require_rounds F_require_rounds B i_require_schedule x_InvalidSchedule), FunD.bindsN F_require_rounds fun _ _ _ _ _ _ us hl => match us, hl with | [_], _ => rfl, F_require_rounds.kp⟩⟩
  have i_is_group : FnI P w K mg base 3 "is_group" p_is_group cIsGrp := ⟨⟨_, fd_is_group, He.glo_ok X G (c.fact 19 (f := .glo "is_group") rfl), (f_is_group F_is_group B i_is_at_least), FunD.bindsN F_is_group fun _ _ _ _ _ _ us hl => match us, hl with | [_, _], _ => rfl, F_is_group.kp⟩⟩
  have i_require_counts : FnI P w K mg base 4 "require_counts" p_require_counts (cReqCounts K) := ⟨⟨_, fd_require_counts, He.glo_ok X G (c.fact 20 (f := .glo "require_counts") rfl), (f_require_counts F_require_counts B i_is_group c_MAX_ROUNDS x_InvalidCounts), FunD.bindsN F_require_counts fun _ _ _ _ _ _ us hl => match us, hl with | [_], _ => rfl, F_require_counts.kp⟩⟩
  have i_require_small_round : FnI P w K mg base 3 "require_small_round" p_require_small_round (cSmall K) := ⟨⟨_, fd_require_small_round, He.glo_ok X G (c.fact 21 (f := .glo "require_small_round") rfl), (f_require_small_round F_require_small_round B c_MAX_GROUPS x_TooLarge), FunD.bindsN F_require_small_round fun _ _ _ _ _ _ us hl => match us, hl with | [_], _ => rfl, F_require_small_round.kp⟩⟩
  have i_require_split : FnI P w K mg base 5 "require_split" p_require_split (cReqSplit K) := ⟨⟨_, fd_require_split, He.glo_ok X G (c.fact 22 (f := .glo "require_split") rfl), (f_require_split F_require_split B i_require_rounds i_require_counts i_require_small_round i_is_group x_InvalidSplit), FunD.bindsN F_require_split fun _ _ _ _ _ _ us hl => match us, hl with | [_, _, _], _ => rfl, F_require_split.kp⟩⟩
  have i_Chooser_has_list : MtI P w K mg base 1 (He.ga K "Chooser") "has_list" p_Chooser_has_list (cHasList (He.ga K "Chooser")) := ⟨⟨_, fd_Chooser_has_list, k_Chooser, He.meth_ok (c.fact 41 (f := .meth "Chooser" "has_list") rfl), (f_Chooser_has_list F_Chooser_has_list B k_Chooser na_Chooser), FunD.bindsN F_Chooser_has_list fun _ _ _ _ _ _ us hl => match us, hl with | [_], _ => rfl⟩⟩
  have i_products : FnI P w K mg base 1 "products" p_products cProducts := ⟨⟨_, fd_products, He.glo_ok X G (c.fact 23 (f := .glo "products") rfl), (f_products F_products B ), FunD.bindsN F_products fun _ _ _ _ _ _ us hl => match us, hl with | [_], _ => rfl, F_products.kp⟩⟩
  have i_scaled_weight : FnI P w K mg base 2 "scaled_weight" p_scaled_weight cScaled := ⟨⟨_, fd_scaled_weight, He.glo_ok X G (c.fact 24 (f := .glo "scaled_weight") rfl), (f_scaled_weight F_scaled_weight B i_products), FunD.bindsN F_scaled_weight fun _ _ _ _ _ _ us hl => match us, hl with | [_, _], _ => rfl, F_scaled_weight.kp⟩⟩
  have i_group_weights : FnI P w K mg base 3 "group_weights" p_group_weights cWeights := ⟨⟨_, fd_group_weights, He.glo_ok X G (c.fact 25 (f := .glo "group_weights") rfl), (f_group_weights F_group_weights B i_scaled_weight), FunD.bindsN F_group_weights fun _ _ _ _ _ _ us hl => match us, hl with | [_, _], _ => rfl, F_group_weights.kp⟩⟩
  have i_lightest_group : FnI P w K mg base 6 "lightest_group" p_lightest_group (cExtreme K IsMin) := ⟨⟨_, fd_lightest_group, He.glo_ok X G (c.fact 26 (f := .glo "lightest_group") rfl), (f_lightest_group F_lightest_group B i_require_split i_group_weights), FunD.bindsN F_lightest_group fun _ _ _ _ _ _ us hl => match us, hl with | [_, _, _], _ => rfl, F_lightest_group.kp⟩⟩
  have i_heaviest_group : FnI P w K mg base 6 "heaviest_group" p_heaviest_group (cExtreme K IsMax) := ⟨⟨_, fd_heaviest_group, He.glo_ok X G (c.fact 27 (f := .glo "heaviest_group") rfl), (f_heaviest_group F_heaviest_group B i_require_split i_group_weights), FunD.bindsN F_heaviest_group fun _ _ _ _ _ _ us hl => match us, hl with | [_, _, _], _ => rfl, F_heaviest_group.kp⟩⟩
  have i_Chooser_next_choice : MtI P w K mg base 7 (He.ga K "Chooser") "next_choice" p_Chooser_next_choice (cNext K (He.ga K "Chooser")) := ⟨⟨_, fd_Chooser_next_choice, k_Chooser, He.meth_ok (c.fact 42 (f := .meth "Chooser" "next_choice") rfl), (f_Chooser_next_choice F_Chooser_next_choice B i_require_split i_is_at_least i_Chooser_has_list i_lightest_group i_heaviest_group c_LIGHTEST x_InvalidNumber x_InvalidGroup k_Chooser na_Chooser), FunD.bindsN F_Chooser_next_choice fun _ _ _ _ _ _ us hl => match us, hl with | [_, _, _, _, _], _ => rfl⟩⟩
  have i_l_list_right : FnI P w K mg base 9 "_law_list_right" p_l_list_right cListR := ⟨⟨_, fd_l_list_right, He.glo_ok X G (c.fact 28 (f := .glo "_law_list_right") rfl), (f_l_list_right F_l_list_right B i_l_path i_l_shuffled i_l_even (fun _ => i_Chooser___init__) i_Chooser_next_choice k_Chooser), FunD.bindsN F_l_list_right fun _ _ _ _ _ _ us hl => match us, hl with | [_, _, _], _ => rfl, F_l_list_right.kp⟩⟩
  exact f_law F_law B i_l_cell_at i_l_source i_l_take i_l_pick i_l_rounds i_l_crowd i_l_parts i_l_extreme i_l_list_right (fun _ => i_Chooser___init__) i_Chooser_next_choice k_Chooser
end SL
open PySem PySem.W PySem.Calls PyProof.Rows
theorem PySem.Challenge.cw_splitclimb_k33_choices_by_rules_holds : PySem.Challenge.rw_splitclimb_k33_choices_by_rules.Holds := by
  w_on; o_law
  refine HandSHeadRun.head_any (r := OpenLaw.row PySem.Challenge.rw_splitclimb_k33_choices_by_rules) (q := view (OpenLaw.row PySem.Challenge.rw_splitclimb_k33_choices_by_rules).prog [49]) (H := SL.hk) (ob := SL.hob) (M := 6000) (loose := SL.hloose) (d := HandSHeadRun.topDef (OpenLaw.row PySem.Challenge.rw_splitclimb_k33_choices_by_rules).prog 49) (kwd := []) SL.hob_eq
    (by kernel_rfl) (fun s => by kernel_rfl) SL.hrun (by kernel_rfl) (by kernel_rfl) (by kernel_rfl) (by rfl) (by first | assumption | decide +kernel) (by decide +kernel) ⟨rfl, rfl, rfl, rfl, rfl, by decide +kernel⟩ ?hw ?hc
  case hw => w_witness2
  case hc =>
    refine SL.walk_ofX (l := PySem.Challenge.rw_splitclimb_k33_choices_by_rules) (n := 63) (k := 12) (x := "_law_script") (c := SL.cLaw) rfl (by decide) (by kernel_rfl) ⟨rfl, by decide, by decide⟩ ?F (fun ns _ _ => ⟨rfl, fun d => d = .bl true, fun _ => False, ⟨ns, rfl, rfl⟩, fun _ h => h, fun _ h => h⟩)
    intro w mg fa h Y G hmg0
    obtain ⟨K, KX, c⟩ := Y
    have hmg : mg ("law" : PySem.Str) = some (.ref fa) := by
      have e : (HandSHeadRun.topDef (OpenLaw.row PySem.Challenge.rw_splitclimb_k33_choices_by_rules).prog 49).name = ("law" : PySem.Str) := by kernel_rfl
      rw [← e]
      exact hmg0
    obtain ⟨fd, hb, hF⟩ := SL.hfacts (P := (PySem.Challenge.rw_splitclimb_k33_choices_by_rules).prog) (w := w) KX G hmg c
    exact ⟨K, fd, KX, hb, hF⟩
