import PyProof.Rows.All
import Wide.All
import OpenK.AllK
import Wide.FinOn
import HandS.ForMost
import HandS.ForExc
import HandS.TupAny
import HandS.TupLe
import HandS.TupMul
import HandS.Wide
import HandS.IsInst
import HandS.ExcCtx
import HandS.HotCalls
import HandS.RaiseMore
import HandS.Comp
import HandS.Walk
import HandS.Zip
import HandS.ExcField
import HandS.ExcIs
import HandS.ExcInit
import HandS.HeadHook2
import HandS.SortRule
import HandS.Ends
import HandS.HeadEnd
import HandS.Codes
import HandS.Head0
import HandS.Head1
import HandS.Head2
import PySem.Challenge.RW_workwishes_k36_no_room
section
set_option Elab.async false
set_option linter.all false
set_option maxRecDepth 100000
set_option maxHeartbeats 4000000
/-! WA: data without addresses, the store, how both stand for the hand layer's values and heap. -/
namespace WL
open PySem L2
/-- a value: tuples are trees, things that may change are places of the store -/
inductive D where
  | non | bl (b : Bool) | int (i : Int) | str (s : Str) | tup (xs : List D) | ref (l : Nat)
/-- what stands at a place of the store -/
inductive O where
  | lst (xs : List D)
  | rls (xs : List D)
  | ins (c : Str) (fs : List (Str × D))
  | exc (c : Str) (fs : List (Str × D))
abbrev Sto := List O
abbrev Ro := List (Option D)
/-- the places' addresses, and whether what stands there may change -/
abbrev Pls := List (Addr × Bool)
def O.mut : O → Bool
  | .lst _ => true
  | .ins _ _ => true
  | _ => false
def O.isExc : O → Bool
  | .exc _ _ => true
  | _ => false
/-- the abstract heap's things that may change -/
def hmut : HO → Bool
  | .lst _ => true
  | .ins _ _ _ => true
  | _ => false
mutual
/-- v stands for d -/
def RV (K : PySem.W.Frag) (H : Hp) (ι : Pls) : D → V → Prop
  | .non, v => v = .non
  | .bl b, v => v = .bl b
  | .int i, v => v = .int i
  | .str s, v => v = .str s
  | .tup ds, v => ∃ a vs, v = .ref a ∧ SqT K H a vs ∧ RVs K H ι ds vs
  | .ref l, v => ∃ a b, v = .ref a ∧ ι[l]? = some (a, b)
def RVs (K : PySem.W.Frag) (H : Hp) (ι : Pls) : List D → List V → Prop
  | [], vs => vs = []
  | d :: ds, vs => ∃ v r, vs = v :: r ∧ RV K H ι d v ∧ RVs K H ι ds r
end
mutual
/-- no place at n or above is named -/
def D.low (n : Nat) : D → Bool
  | .tup ds => lows n ds
  | .ref l => decide (l < n)
  | _ => true
def lows (n : Nat) : List D → Bool
  | [] => true
  | d :: ds => d.low n && lows n ds
end
/-- a class of the program by its name: its address -/
abbrev Cl := Str → Addr
/-- the exception that is handled: its address, its class's name, its dict -/
abbrev Md := Option (Addr × Str × Option Addr)
def RF (K : PySem.W.Frag) (H : Hp) (ι : Pls) : List (Str × D) → List (Str × V) → Prop
  | [], fs => fs = []
  | (x, d) :: ds, fs => ∃ v r, fs = (x, v) :: r ∧ RV K H ι d v ∧ RF K H ι ds r
def lowF (n : Nat) : List (Str × D) → Bool
  | [] => true
  | (_, d) :: r => d.low n && lowF n r
def O.low (n : Nat) : O → Bool
  | .lst ds => lows n ds
  | .rls ds => lows n ds
  | .ins _ fs => lowF n fs
  | .exc _ fs => lowF n fs
/-- an exception's fields, by its dict -/
def RX (K : PySem.W.Frag) (H : Hp) (ι : Pls) (fs : List (Str × D)) (d : Option Addr) : Prop :=
  (fs = [] ∧ d = none) ∨ ∃ da gs, d = some da ∧ H da = some (.xd gs) ∧ RF K H ι fs gs
/-- a list that is only read: locked, or the module's own -/
def SqR (K : PySem.W.Frag) (H : Hp) (a : Addr) (vs : List V) : Prop :=
  (∃ o, H a = some (.frz o (.lst vs))) ∨ ∃ (o : Obj) (its : Array Value) (n : Nat), K.lookup a = some o ∧ o.cls = .type "list" ∧ o.dict = none ∧ o.data = .seq its n ∧ its.size ≤ sizeLine ∧ Vals vs its.toList
theorem SqR.seq {K : PySem.W.Frag} {H : Hp} {a : Addr} {vs : List V} (h : SqR K H a vs) : SqL K H a vs := by
  rcases h with ⟨o, h⟩ | h
  · exact .inl (.inr ⟨o, h⟩)
  · exact .inr h
def RO (K : PySem.W.Frag) (cl : Cl) (px : Md) (H : Hp) (ι : Pls) (a : Addr) : O → Prop
  | .lst ds => ∃ vs, H a = some (.lst vs) ∧ RVs K H ι ds vs
  | .rls ds => ∃ vs, SqR K H a vs ∧ RVs K H ι ds vs
  | .ins c fs => ∃ dx gs, H a = some (.ins (cl c) dx gs) ∧ RF K H ι fs gs
  | .exc c fs => ∃ d, px = some (a, c, d) ∧ RX K H ι fs d
structure RS (K : PySem.W.Frag) (cl : Cl) (px : Md) (H : Hp) (ι : Pls) (S : Sto) : Prop where
  len : ι.length = S.length
  nd : ∀ (l m : Nat) (a : Addr), ι[l]? = some (a, true) → ι[m]? = some (a, true) → l = m
  at_ : ∀ (l : Nat) (p : Addr × Bool) (o : O), ι[l]? = some p → S[l]? = some o → o.mut = p.2 ∧ RO K cl px H ι p.1 o
/-- from (ι, H) on: older places stand, new places are new addresses, what does not change or is no place's is kept -/
structure Step (ι : Pls) (H : Hp) (ι' : Pls) (H' : Hp) : Prop where
  pre : ∃ t, ι' = ι ++ t
  new : ∀ l p, ι'[l]? = some p → l < ι.length ∨ H p.1 = none
  keep : ∀ a o, H a = some o → (hmut o = true → (a, true) ∉ ι) → H' a = some o
  there : ∀ a, H a ≠ none → H' a ≠ none
theorem Step.refl (ι : Pls) (H : Hp) : Step ι H ι H := ⟨⟨[], by simp⟩, fun _ _ h => .inl (List.getElem?_eq_some_iff.mp h).1, fun _ _ h _ => h, fun _ h => h⟩
theorem Step.get {ι ι' : Pls} {H H' : Hp} (st : Step ι H ι' H') {l : Nat} {a : Addr × Bool} (h : ι[l]? = some a) : ι'[l]? = some a := by
  obtain ⟨t, rfl⟩ := st.pre
  have := (List.getElem?_eq_some_iff.mp h).1
  rw [List.getElem?_append_left this]
  exact h
theorem Step.old {ι ι' : Pls} {H H' : Hp} (st : Step ι H ι' H') {l : Nat} {a : Addr × Bool} (h : ι'[l]? = some a) (hl : l < ι.length) : ι[l]? = some a := by
  obtain ⟨t, rfl⟩ := st.pre
  rw [List.getElem?_append_left hl] at h
  exact h
theorem Step.trans {ι ι1 ι2 : Pls} {H H1 H2 : Hp} (a : Step ι H ι1 H1) (b : Step ι1 H1 ι2 H2) : Step ι H ι2 H2 := by
  have k : ∀ x o, H x = some o → (hmut o = true → (x, true) ∉ ι) → H1 x = some o ∧ (hmut o = true → (x, true) ∉ ι1) := fun x o e n =>
    ⟨a.keep x o e n, fun hm m => by
      obtain ⟨l, hl, q⟩ := List.getElem_of_mem m
      have q' : ι1[l]? = some (x, true) := by rw [List.getElem?_eq_getElem hl, q]
      rcases a.new l _ q' with z | z
      · exact n hm (List.mem_of_getElem? (a.old q' z))
      · rw [e] at z; cases z⟩
  refine ⟨?_, fun l p m => ?_, fun x o e n => b.keep x o (k x o e n).1 (k x o e n).2, fun x h => b.there x (a.there x h)⟩
  · obtain ⟨t, rfl⟩ := a.pre
    obtain ⟨u, rfl⟩ := b.pre
    exact ⟨t ++ u, by simp⟩
  · rcases b.new l p m with m1 | z
    · exact a.new l p (b.old m m1)
    · right
      cases q : H p.1 with
      | none => rfl
      | some o => exact absurd z (a.there p.1 (by rw [q]; simp))
theorem Step.same {ι : Pls} {H H' : Hp} (h : ∀ b o, H b = some o → H' b = some o) : Step ι H ι H' := ⟨⟨[], by simp⟩, fun _ _ h => .inl (List.getElem?_eq_some_iff.mp h).1, fun a o e _ => h a o e, fun a n => by
  cases q : H a with
  | none => exact absurd q n
  | some o => rw [h a o q]; simp⟩
section
variable {K : PySem.W.Frag} {cl : Cl} {px : Md} {H H' : Hp} {ι ι' : Pls} {S S' : Sto}
/-- places stand, what does not change is kept -/
structure Kp (ι : Pls) (H : Hp) (ι' : Pls) (H' : Hp) : Prop where
  get : ∀ (l : Nat) (p : Addr × Bool), ι[l]? = some p → ι'[l]? = some p
  imm : ∀ a o, H a = some o → hmut o = false → H' a = some o
theorem Step.kp (st : Step ι H ι' H') : Kp ι H ι' H' := ⟨fun _ _ h => st.get h, fun a o e h => st.keep a o e fun z => by rw [h] at z; cases z⟩
theorem rd_keep {a : Addr} {u : HO} (nm : hmut u = false) (k : ∀ a o, H a = some o → hmut o = false → H' a = some o) (r : Rd H a u) : Rd H' a u := by
  rcases r with r | ⟨o, r⟩
  · exact .inl (k a u r nm)
  · exact .inr ⟨o, k a _ r rfl⟩
theorem sqT_keep {a : Addr} {vs : List V} (k : ∀ a o, H a = some o → hmut o = false → H' a = some o) (r : SqT K H a vs) : SqT K H' a vs := by
  rcases r with r | r
  · exact .inl (rd_keep rfl k r)
  · exact .inr r
mutual
theorem RV.kp (st : Kp ι H ι' H') : ∀ (d : D) (v : V), RV K H ι d v → RV K H' ι' d v
  | .non, _, h => h
  | .bl _, _, h => h
  | .int _, _, h => h
  | .str _, _, h => h
  | .tup ds, v, h => by
    simp only [RV] at h ⊢
    obtain ⟨a, vs, e, q, r⟩ := h
    exact ⟨a, vs, e, sqT_keep st.imm q, RVs.kp st ds vs r⟩
  | .ref l, v, h => by
    simp only [RV] at h ⊢
    obtain ⟨a, b, e, q⟩ := h
    exact ⟨a, b, e, st.get _ _ q⟩
theorem RVs.kp (st : Kp ι H ι' H') : ∀ (ds : List D) (vs : List V), RVs K H ι ds vs → RVs K H' ι' ds vs
  | [], _, h => h
  | d :: ds, vs, h => by
    simp only [RVs] at h ⊢
    obtain ⟨v, r, e, q, t⟩ := h
    exact ⟨v, r, e, RV.kp st d v q, RVs.kp st ds r t⟩
end
theorem RF.kp (st : Kp ι H ι' H') : ∀ (ds : List (Str × D)) (vs : List (Str × V)), RF K H ι ds vs → RF K H' ι' ds vs
  | [], _, h => h
  | (x, d) :: ds, vs, h => by
    simp only [RF] at h ⊢
    obtain ⟨v, r, e, q, t⟩ := h
    exact ⟨v, r, e, RV.kp st d v q, RF.kp st ds r t⟩
theorem RX.kp (st : Kp ι H ι' H') {fs : List (Str × D)} {d : Option Addr} (h : RX K H ι fs d) : RX K H' ι' fs d := by
  rcases h with h | ⟨da, gs, e, q, r⟩
  · exact .inl h
  · exact .inr ⟨da, gs, e, st.imm _ _ q rfl, RF.kp st _ _ r⟩
theorem RV.step (st : Step ι H ι' H') (d : D) (v : V) (h : RV K H ι d v) : RV K H' ι' d v := RV.kp st.kp d v h
theorem RVs.step (st : Step ι H ι' H') (d : List D) (v : List V) (h : RVs K H ι d v) : RVs K H' ι' d v := RVs.kp st.kp d v h
theorem RF.step (st : Step ι H ι' H') (d : List (Str × D)) (v : List (Str × V)) (h : RF K H ι d v) : RF K H' ι' d v := RF.kp st.kp d v h
theorem RX.step (st : Step ι H ι' H') {fs : List (Str × D)} {d : Option Addr} (h : RX K H ι fs d) : RX K H' ι' fs d := RX.kp st.kp h
theorem RVs.length : ∀ {ds : List D} {vs : List V}, RVs K H ι ds vs → ds.length = vs.length
  | [], _, h => by
    simp only [RVs] at h
    rw [h]
    rfl
  | d :: ds, vs, h => by
    simp only [RVs] at h
    obtain ⟨v, r, rfl, _, t⟩ := h
    simp [RVs.length t]
theorem RVs.get : ∀ {ds : List D} {vs : List V} {i : Nat} {d : D}, RVs K H ι ds vs → ds[i]? = some d → ∃ v, vs[i]? = some v ∧ RV K H ι d v
  | [], _, _, _, _, e => by simp at e
  | d0 :: ds, vs, 0, d, h, e => by
    simp only [RVs] at h
    obtain ⟨v, r, rfl, q, _⟩ := h
    simp at e
    subst e
    exact ⟨v, rfl, q⟩
  | d0 :: ds, vs, i + 1, d, h, e => by
    simp only [RVs] at h
    obtain ⟨v, r, rfl, _, t⟩ := h
    obtain ⟨u, e1, e2⟩ := RVs.get (i := i) (d := d) t (by simpa using e)
    exact ⟨u, by simpa using e1, e2⟩
theorem RVs.getV : ∀ {ds : List D} {vs : List V} {i : Nat} {v : V}, RVs K H ι ds vs → vs[i]? = some v → ∃ d, ds[i]? = some d ∧ RV K H ι d v := fun {ds vs i v} h e => by
  have hl := RVs.length h
  have h1 := (List.getElem?_eq_some_iff.mp e).1
  obtain ⟨u, e1, e2⟩ := RVs.get (d := ds[i]) h (List.getElem?_eq_getElem (by omega))
  rw [e] at e1
  cases e1
  exact ⟨_, List.getElem?_eq_getElem (by omega), e2⟩
theorem RVs.append : ∀ {ds es : List D} {vs us : List V}, RVs K H ι ds vs → RVs K H ι es us → RVs K H ι (ds ++ es) (vs ++ us)
  | [], _, _, _, h, q => by
    simp only [RVs] at h
    rw [h]
    exact q
  | d :: ds, es, vs, us, h, q => by
    simp only [RVs] at h
    obtain ⟨v, r, rfl, q1, t⟩ := h
    simp only [List.cons_append, RVs]
    exact ⟨v, _, rfl, q1, RVs.append t q⟩
theorem RVs.drop : ∀ {ds : List D} {vs : List V} (n : Nat), RVs K H ι ds vs → RVs K H ι (ds.drop n) (vs.drop n)
  | _, _, 0, h => h
  | [], _, n + 1, h => by
    simp only [RVs] at h
    rw [h]
    simp [RVs]
  | d :: ds, vs, n + 1, h => by
    simp only [RVs] at h
    obtain ⟨v, r, rfl, q1, t⟩ := h
    exact RVs.drop n t
theorem RVs.take : ∀ {ds : List D} {vs : List V} (n : Nat), RVs K H ι ds vs → RVs K H ι (ds.take n) (vs.take n)
  | _, _, 0, _ => by simp [RVs]
  | [], _, n + 1, h => by
    simp only [RVs] at h
    rw [h]
    simp [RVs]
  | d :: ds, vs, n + 1, h => by
    simp only [RVs] at h
    obtain ⟨v, r, rfl, q1, t⟩ := h
    simp only [List.take_succ_cons, RVs]
    exact ⟨v, _, rfl, q1, RVs.take n t⟩
theorem RVs.set : ∀ {ds : List D} {vs : List V} (i : Nat) {d : D} {v : V}, RVs K H ι ds vs → RV K H ι d v → RVs K H ι (ds.set i d) (vs.set i v)
  | [], _, _, _, _, h, _ => by
    simp only [RVs] at h
    rw [h]
    simp [RVs]
  | d0 :: ds, vs, 0, d, v, h, q => by
    simp only [RVs] at h
    obtain ⟨v0, r, rfl, q1, t⟩ := h
    simp only [List.set_cons_zero, RVs]
    exact ⟨v, r, rfl, q, t⟩
  | d0 :: ds, vs, i + 1, d, v, h, q => by
    simp only [RVs] at h
    obtain ⟨v0, r, rfl, q1, t⟩ := h
    simp only [List.set_cons_succ, RVs]
    exact ⟨v0, _, rfl, q1, RVs.set i t q⟩
theorem RVs.erase : ∀ {ds : List D} {vs : List V} (i : Nat), RVs K H ι ds vs → RVs K H ι (ds.eraseIdx i) (vs.eraseIdx i)
  | [], _, _, h => by
    simp only [RVs] at h
    rw [h]
    simp [RVs]
  | d0 :: ds, vs, 0, h => by
    simp only [RVs] at h
    obtain ⟨v0, r, rfl, q1, t⟩ := h
    exact t
  | d0 :: ds, vs, i + 1, h => by
    simp only [RVs] at h
    obtain ⟨v0, r, rfl, q1, t⟩ := h
    simp only [List.eraseIdx_cons_succ, RVs]
    exact ⟨v0, _, rfl, q1, RVs.erase i t⟩
theorem RVs.dropLast {ds : List D} {vs : List V} (h : RVs K H ι ds vs) : RVs K H ι ds.dropLast vs.dropLast := by
  rw [List.dropLast_eq_take, List.dropLast_eq_take, ← RVs.length h]
  exact RVs.take _ h
theorem RVs.rep {ds : List D} {vs : List V} (h : RVs K H ι ds vs) : ∀ k : Nat, RVs K H ι (List.replicate k ds).flatten (List.replicate k vs).flatten
  | 0 => by simp [RVs]
  | k + 1 => by
    simp only [List.replicate_succ, List.flatten_cons]
    exact RVs.append h (RVs.rep h k)
/-! ### names -/
/-- the slots stand for the names' values -/
structure RE (K : PySem.W.Frag) (H : Hp) (ι : Pls) (ρ : Ro) (σ : St) : Prop where
  len : σ.length = ρ.length
  at_ : ∀ (i : Nat) (d : D), ρ[i]? = some (some d) → ∃ v, σ[i]? = some (some v) ∧ RV K H ι d v
theorem RE.step {ρ : Ro} {σ : St} (st : Step ι H ι' H') (h : RE K H ι ρ σ) : RE K H' ι' ρ σ :=
  ⟨h.len, fun i d e => let ⟨v, e1, r⟩ := h.at_ i d e; ⟨v, e1, RV.step st d v r⟩⟩
theorem RE.kp {ρ : Ro} {σ : St} (st : Kp ι H ι' H') (h : RE K H ι ρ σ) : RE K H' ι' ρ σ :=
  ⟨h.len, fun i d e => let ⟨v, e1, r⟩ := h.at_ i d e; ⟨v, e1, RV.kp st d v r⟩⟩
theorem RE.set {ρ : Ro} {σ : St} {i : Nat} {d : D} {v : V} (h : RE K H ι ρ σ) (r : RV K H ι d v) : RE K H ι (ρ.set i (some d)) (σ.set i (some v)) := by
  refine ⟨by simp [h.len], fun j e q => ?_⟩
  by_cases hj : i = j
  · subst hj
    by_cases hl : i < ρ.length
    · rw [List.getElem?_set_self hl] at q
      cases q
      exact ⟨v, List.getElem?_set_self (by rw [h.len]; exact hl), r⟩
    · rw [List.getElem?_eq_none (by simpa using hl)] at q
      cases q
  · rw [List.getElem?_set_ne hj] at q
    obtain ⟨u, e1, e2⟩ := h.at_ j e q
    exact ⟨u, by rw [List.getElem?_set_ne hj]; exact e1, e2⟩
theorem RE.non1 {ρ : Ro} {σ : St} (h : RE K H ι ρ σ) (i : Nat) : RE K H ι (ρ.set i none) σ := by
  refine ⟨by simp [h.len], fun j e q => ?_⟩
  by_cases hj : i = j
  · subst hj
    by_cases hl : i < ρ.length
    · rw [List.getElem?_set_self hl] at q
      cases q
    · rw [List.getElem?_eq_none (by simpa using hl)] at q
      cases q
  · rw [List.getElem?_set_ne hj] at q
    exact h.at_ j e q
theorem RE.non2 {ρ : Ro} {σ : St} (h : RE K H ι ρ σ) (i : Nat) : RE K H ι (ρ.set i none) (σ.set i none) := by
  refine ⟨by simp [h.len], fun j e q => ?_⟩
  by_cases hj : i = j
  · subst hj
    by_cases hl : i < ρ.length
    · rw [List.getElem?_set_self hl] at q
      cases q
    · rw [List.getElem?_eq_none (by simpa using hl)] at q
      cases q
  · rw [List.getElem?_set_ne hj] at q
    obtain ⟨u, e1, e2⟩ := h.at_ j e q
    exact ⟨u, by rw [List.getElem?_set_ne hj]; exact e1, e2⟩
/-! ### places -/
theorem RO.kp {a : Addr} (st : Kp ι H ι' H') (k : ∀ o, H a = some o → H' a = some o) : ∀ o : O, RO K cl px H ι a o → RO K cl px H' ι' a o
  | .lst ds, ⟨vs, e, r⟩ => ⟨vs, k _ e, RVs.kp st ds vs r⟩
  | .rls ds, ⟨vs, e, r⟩ => by
    refine ⟨vs, ?_, RVs.kp st ds vs r⟩
    rcases e with ⟨o, e⟩ | e
    · exact .inl ⟨o, k _ e⟩
    · exact .inr e
  | .ins c fs, ⟨dx, gs, e, r⟩ => ⟨dx, gs, k _ e, RF.kp st fs gs r⟩
  | .exc c fs, ⟨d, e, r⟩ => ⟨d, e, RX.kp st r⟩
theorem RO.step {a : Addr} (st : Step ι H ι' H') (k : ∀ o, H a = some o → H' a = some o) (o : O) (h : RO K cl px H ι a o) : RO K cl px H' ι' a o := RO.kp st.kp k o h
theorem RS.same (r : RS K cl px H ι S) (h : ∀ b o, H b = some o → H' b = some o) : RS K cl px H' ι S :=
  ⟨r.len, r.nd, fun l a o e1 e2 => ⟨(r.at_ l a o e1 e2).1, RO.step (Step.same h) (fun u => h a.1 u) o (r.at_ l a o e1 e2).2⟩⟩
theorem upd_same_of {p : Addr} {u : HO} (np : H p = none) : ∀ b o, H b = some o → upd H p u b = some o := fun b o e => by
  rw [upd_ne (ne_of_none e np)]
  exact e
theorem Step.fresh {p : Addr} {u : HO} (np : H p = none) : Step ι H ι (L2.upd H p u) := Step.same (upd_same_of np)
theorem RS.fresh {p : Addr} {u : HO} (r : RS K cl px H ι S) (np : H p = none) : RS K cl px (upd H p u) ι S := r.same (upd_same_of np)
theorem Step.alloc {p : Addr} {b : Bool} {u : HO} (np : H p = none) : Step ι H (ι ++ [(p, b)]) (upd H p u) := by
  have q : Step ι H ι (upd H p u) := Step.fresh np
  refine ⟨⟨[(p, b)], rfl⟩, fun l a e => ?_, q.keep, q.there⟩
  by_cases hl : l < ι.length
  · exact .inl hl
  · right
    have h1 := (List.getElem?_eq_some_iff.mp e).1
    simp only [List.length_append, List.length_singleton] at h1
    have : l = ι.length := by omega
    subst this
    simp at e
    rw [← e]
    exact np
/-- a changeable place is known to the heap -/
theorem RS.live (r : RS K cl px H ι S) {l : Nat} {a : Addr} (e : ι[l]? = some (a, true)) : H a ≠ none := by
  have hl := (List.getElem?_eq_some_iff.mp e).1
  have hl' : l < S.length := by rw [← r.len]; exact hl
  obtain ⟨h1, h2⟩ := r.at_ l _ (S[l]'hl') e (List.getElem?_eq_getElem hl')
  cases h : S[l]'hl' with
  | lst ds =>
    rw [h] at h2
    obtain ⟨vs, q, _⟩ := h2
    rw [q]
    simp
  | ins c fs =>
    rw [h] at h2
    obtain ⟨dx, gs, q, _⟩ := h2
    rw [q]
    simp
  | rls ds => rw [h] at h1; cases h1
  | exc c fs => rw [h] at h1; cases h1
/-- a new place -/
theorem RS.alloc {p : Addr} {u : HO} {o : O} (r : RS K cl px H ι S) (np : H p = none) (ho : RO K cl px (upd H p u) (ι ++ [(p, o.mut)]) p o) : RS K cl px (upd H p u) (ι ++ [(p, o.mut)]) (S ++ [o]) := by
  have tail : ∀ {l : Nat} {a : Addr × Bool}, (ι ++ [(p, o.mut)])[l]? = some a → ι[l]? = some a ∨ (l = ι.length ∧ a = (p, o.mut)) := fun {l a} e1 => by
    by_cases hl : l < ι.length
    · rw [List.getElem?_append_left hl] at e1
      exact .inl e1
    · have h1 := (List.getElem?_eq_some_iff.mp e1).1
      simp only [List.length_append, List.length_singleton] at h1
      have : l = ι.length := by omega
      subst this
      simp at e1
      exact .inr ⟨rfl, e1.symm⟩
  refine ⟨by simp [r.len], fun l m a e1 e2 => ?_, fun l a w e1 e2 => ?_⟩
  · rcases tail e1 with p1 | ⟨p1, p2⟩ <;> rcases tail e2 with q1 | ⟨q1, q2⟩
    · exact r.nd l m a p1 q1
    · have : a = p := congrArg (·.1) q2
      rw [this] at p1
      exact absurd np (r.live p1)
    · have : a = p := congrArg (·.1) p2
      rw [this] at q1
      exact absurd np (r.live q1)
    · rw [p1, q1]
  · rcases tail e1 with p1 | ⟨p1, p2⟩
    · have hl := (List.getElem?_eq_some_iff.mp p1).1
      rw [List.getElem?_append_left (by rw [← r.len]; exact hl)] at e2
      obtain ⟨z1, z2⟩ := r.at_ l a w p1 e2
      exact ⟨z1, RO.step (Step.alloc np) (fun v e => upd_same_of np a.1 v e) w z2⟩
    · subst p1
      rw [r.len] at e2
      simp at e2
      subst e2
      subst p2
      exact ⟨rfl, ho⟩
theorem RS.there (r : RS K cl px H ι S) {l : Nat} {o : O} (e : S[l]? = some o) : ∃ a, ι[l]? = some (a, o.mut) := by
  have h := (List.getElem?_eq_some_iff.mp e).1
  have q : ι[l]? = some (ι[l]'(by rw [r.len]; exact h)) := List.getElem?_eq_getElem (by rw [r.len]; exact h)
  have z := (r.at_ l _ o q e).1
  refine ⟨(ι[l]'(by rw [r.len]; exact h)).1, ?_⟩
  rw [q, z]
theorem RS.lst {l : Nat} {a : Addr × Bool} {ds : List D} (r : RS K cl px H ι S) (e1 : ι[l]? = some a) (e2 : S[l]? = some (.lst ds)) : a.2 = true ∧ ∃ vs, H a.1 = some (.lst vs) ∧ RVs K H ι ds vs := ⟨(r.at_ l a _ e1 e2).1.symm, (r.at_ l a _ e1 e2).2⟩
/-- a changeable place gets something else -/
theorem Step.write {l : Nat} {a : Addr} {u w : HO} (e1 : ι[l]? = some (a, true)) (h : H a = some w) (hw : hmut w = true) : Step ι H ι (L2.upd H a u) := by
  refine ⟨⟨[], by simp⟩, fun _ _ h => .inl (List.getElem?_eq_some_iff.mp h).1, fun b o e n => ?_, fun b n => ?_⟩
  · have hb : b ≠ a := by
      intro z
      subst z
      rw [h] at e
      cases e
      exact n hw (List.mem_of_getElem? e1)
    rw [upd_ne hb]
    exact e
  · by_cases hb : b = a
    · rw [hb, upd_same]
      simp
    · rw [upd_ne hb]
      exact n
theorem RS.write {l : Nat} {a : Addr} {o o' : O} {u w : HO} (r : RS K cl px H ι S) (e1 : ι[l]? = some (a, true)) (e2 : S[l]? = some o) (h : H a = some w) (hw : hmut w = true)
    (hm' : o'.mut = true) (ho : RO K cl px (L2.upd H a u) ι a o') : RS K cl px (L2.upd H a u) ι (S.set l o') := by
  have st : Step ι H ι (L2.upd H a u) := Step.write e1 h hw
  have hl := (List.getElem?_eq_some_iff.mp e2).1
  refine ⟨by simp [r.len], r.nd, fun m b x p1 p2 => ?_⟩
  by_cases hml : m = l
  · subst hml
    rw [e1] at p1
    cases p1
    rw [List.getElem?_set_self hl] at p2
    cases p2
    exact ⟨hm', ho⟩
  · rw [List.getElem?_set_ne (Ne.symm hml)] at p2
    obtain ⟨z1, z⟩ := r.at_ m b x p1 p2
    refine ⟨z1, ?_⟩
    by_cases hb : b.1 = a
    · obtain ⟨b1, b2⟩ := b
      simp only at hb z1 z
      subst hb
      cases b2 with
      | true => exact absurd (r.nd m l _ p1 e1) hml
      | false =>
        cases x with
        | lst ds => cases z1
        | ins c fs => cases z1
        | rls ds =>
          obtain ⟨vs, s, t⟩ := z
          refine ⟨vs, ?_, RVs.step st ds vs t⟩
          rcases s with ⟨f, s⟩ | s
          · rw [h] at s
            cases s
            cases hw
          · exact .inr s
        | exc c fs =>
          obtain ⟨d, s, t⟩ := z
          exact ⟨d, s, RX.step st t⟩
    · exact RO.step st (fun v e => by rw [upd_ne hb]; exact e) x z
/-- a list that is no place may change -/
theorem Kp.off {D : Addr} {u w : HO} (h : H D = some w) (hw : hmut w = true) : Kp ι H ι (L2.upd H D u) :=
  ⟨fun _ _ h => h, fun a o e hm => by
    have hb : a ≠ D := by
      intro z
      subst z
      rw [h] at e
      cases e
      rw [hw] at hm
      cases hm
    rw [upd_ne hb]
    exact e⟩
theorem RS.off {D : Addr} {u w : HO} (r : RS K cl px H ι S) (h : H D = some w) (hw : hmut w = true) (nm : (D, true) ∉ ι) : RS K cl px (L2.upd H D u) ι S := by
  have k : Kp ι H ι (L2.upd H D u) := Kp.off h hw
  refine ⟨r.len, r.nd, fun m b x p1 p2 => ?_⟩
  obtain ⟨z1, z⟩ := r.at_ m b x p1 p2
  refine ⟨z1, ?_⟩
  by_cases hb : b.1 = D
  · obtain ⟨b1, b2⟩ := b
    simp only at hb z1 z
    subst hb
    cases b2 with
    | true => exact absurd (List.mem_of_getElem? p1) nm
    | false =>
      cases x with
      | lst ds => cases z1
      | ins c fs => cases z1
      | rls ds =>
        obtain ⟨vs, s, t⟩ := z
        refine ⟨vs, ?_, RVs.kp k ds vs t⟩
        rcases s with ⟨f, s⟩ | s
        · rw [h] at s
          cases s
          cases hw
        · exact .inr s
      | exc c fs =>
        obtain ⟨d, s, t⟩ := z
        exact ⟨d, s, RX.kp k t⟩
  · exact RO.kp k (fun v e => by rw [upd_ne hb]; exact e) x z
/-- a step over a list that is no place, then the change of that list, seen from ahead of the list -/
theorem Step.off {D : Addr} {u : HO} (st : Step ι H ι' H') (np : H D = none) : Step ι H ι' (L2.upd H' D u) := by
  refine ⟨st.pre, st.new, fun a o e n => ?_, fun a n => ?_⟩
  · have hb : a ≠ D := by
      intro z
      subst z
      rw [np] at e
      cases e
    rw [upd_ne hb]
    exact st.keep a o e n
  · by_cases hb : a = D
    · rw [hb, upd_same]
      simp
    · rw [upd_ne hb]
      exact st.there a n
/-- an address that stood ahead and was no place is none behind -/
theorem Step.nomem {D : Addr} (st : Step ι H ι' H') (h : H D ≠ none) (nm : (D, true) ∉ ι) : (D, true) ∉ ι' := fun m => by
  obtain ⟨l, hl, q⟩ := List.getElem_of_mem m
  have q' : ι'[l]? = some (D, true) := by rw [List.getElem?_eq_getElem hl, q]
  rcases st.new l _ q' with z | z
  · exact nm (List.mem_of_getElem? (st.old q' z))
  · exact h z
end
end WL
end
section
set_option Elab.async false
set_option linter.all false
set_option maxRecDepth 100000
set_option maxHeartbeats 4000000
/-! WB: the syntax that is run, and its interpreter. -/
namespace WL
open PySem L2
inductive BO | add | sub | mul | mod | div | pow
  deriving DecidableEq
inductive CO | eq | ne | lt | le | gt | ge | in_ | nin | is_ | isn
  deriving DecidableEq
inductive BF | len | abs | int | tup | lst | repr | str | sum | all | any | min1 | min2 | max2 | sorted
  deriving DecidableEq
inductive MF | append | pop0 | pop1
  deriving DecidableEq
inductive Tg | nm (i : Nat) | tp (is : List Nat)
  deriving DecidableEq
mutual
inductive Ex
  | lit (d : D)
  | loc (i : Nat)
  | con (x : Str) (d : D)
  | neg (a : Ex)
  | bin (o : BO) (a b : Ex)
  | cmp (o : CO) (a b : Ex)
  | chn (o p : CO) (a b c : Ex)
  | and (as : Exs)
  | or (as : Exs)
  | not (a : Ex)
  | tup (as : Exs)
  | lst (as : Exs)
  | idx (a i : Ex)
  | cut (a : Ex) (lo hi : Pt)
  | call (f : Str) (as : Exs)
  | bif (f : BF) (as : Exs)
  | mth (m : MF) (o : Ex) (as : Exs)
  | isi (a : Ex) (cs : List Str) (t : Bool)
  | fld (a : Ex) (f : Str)
  | comp (e : Ex) (t : Tg) (it : Iw) (c : Tx) (own : List Nat)
inductive Pt
  | no
  | at (a : Ex)
/-- a test -/
inductive Tx
  | yes
  | val (a : Ex)
  | and (as : Txs)
  | or (as : Txs)
  | not (a : Tx)
inductive Txs
  | nil
  | cons (a : Tx) (r : Txs)
inductive Exs
  | nil
  | cons (a : Ex) (r : Exs)
inductive Iw
  | seq (a : Ex)
  | rng1 (a : Ex)
  | rng2 (a b : Ex)
  | enum (a : Ex)
  | zip (a b : Ex)
end
mutual
inductive Sm
  | asg (t : Tg) (e : Ex)
  | asgI (o i e : Ex)
  | aug (i : Nat) (o : BO) (e : Ex)
  | ex (e : Ex)
  | ret (e : Ex)
  | iff (c : Tx) (a b : Sms)
  | for_ (t : Tg) (it : Iw) (b : Sms) (kill : List Nat)
  | whl (c : Tx) (b : Sms) (kill : List Nat)
  | raise (c : Str) (as : Exs)
  | tryAs (b : Sms) (c : Str) (i : Nat) (h : Sms)
  | pass
inductive Sms
  | nil
  | cons (a : Sm) (r : Sms)
end

inductive Res (α : Type) where
  | ok (a : α) (S : Sto)
  | exc (c : Str) (fs : List (Str × D)) (S : Sto)
  | bad
def Res.bind {α β : Type} (r : Res α) (f : α → Sto → Res β) : Res β := match r with
  | .ok a S => f a S
  | .exc c fs S => .exc c fs S
  | .bad => .bad
/-- a fact's outcome or nothing -/
def Res.of {α : Type} (o : Option α) (S : Sto) : Res α := match o with
  | some a => .ok a S
  | none => .bad
section
variable {α β : Type}
@[simp] theorem bind_ok (a : α) (S : Sto) (f : α → Sto → Res β) : (Res.ok a S).bind f = f a S := rfl
@[simp] theorem bind_exc (c : Str) (fs : List (Str × D)) (S : Sto) (f : α → Sto → Res β) : (Res.exc c fs S : Res α).bind f = .exc c fs S := rfl
@[simp] theorem bind_bad (f : α → Sto → Res β) : (Res.bad : Res α).bind f = .bad := rfl
@[simp] theorem of_some (a : α) (S : Sto) : Res.of (some a) S = .ok a S := rfl
@[simp] theorem of_none (S : Sto) : (Res.of (none : Option α) S) = .bad := rfl
end

/-! ### the program's own classes, what is known of its text -/
structure Pg where
  /-- the names of the program's own classes -/
  cls : List Str
  /-- the names of the fields that a class's __init__ stores, in the order of its parameters; none: no __init__ -/
  flds : Str → Option (List Str)
  /-- the module's constants -/
  con : Str → Option D
  /-- whether a class of the program is another name's kind -/
  sub : Str → Str → Bool

/-! ### leaving places out -/
open Classical in
/-- what was laid behind S is left out, where nothing names it -/
noncomputable def gc (S : Sto) (ds : List D) (S' : Sto) : Sto :=
  if lows S.length ds = true ∧ S.length ≤ S'.length ∧ ∀ l, l < S.length → S'[l]? = S[l]? ∨ ∃ o, S'[l]? = some o ∧ o.low S.length = true then S'.take S.length else S'
theorem gc_self (S : Sto) (ds : List D) : gc S ds S = S := by
  unfold gc
  split
  · exact List.take_length
  · rfl
theorem gc_app {S : Sto} {ds : List D} {G : Sto} (h : lows S.length ds = true) : gc S ds (S ++ G) = S := by
  unfold gc
  rw [if_pos]
  · exact List.take_left
  · refine ⟨h, by simp, fun l hl => .inl ?_⟩
    rw [List.getElem?_append_left hl]

/-! ### data for == and repr -/
mutual
def pd (S : Sto) : Nat → D → Option PyData
  | _, .non => some .none
  | _, .bl b => some (.bool b)
  | _, .int i => some (.int i)
  | _, .str s => if PyData.strOk s = true then some (.str s) else none
  | 0, .tup _ => none
  | 0, .ref _ => none
  | n + 1, .tup ds => (pds S n ds).map .tuple
  | n + 1, .ref l => match S[l]? with
    | some (.lst ds) => (pds S n ds).map .list
    | some (.rls ds) => (pds S n ds).map .list
    | _ => none
def pds (S : Sto) : Nat → List D → Option (List PyData)
  | _, [] => some []
  | n, d :: ds => match pd S n d, pds S n ds with
    | some a, some as => some (a :: as)
    | _, _ => none
end
def eqP (S : Sto) (x y : D) : Option Bool := match pd S 60 x, pd S 60 y with
  | some a, some b => some (PyData.eqv a b)
  | _, _ => none
def eqD (S : Sto) (x y : D) : Option Bool := match x, y with
  | .str a, .str b => some (decide (a = b))
  | x, y => eqP S x y
def isFlat : D → Bool
  | .non => true | .bl _ => true | .int _ => true | .str _ => true | _ => false
/-- y is in x's items -/
def inD (S : Sto) (x : D) (ds : List D) : Option Bool := match pd S 60 x, pds S 59 ds with
  | some a, some bs => some (bs.any fun z => PyData.eqv z a)
  | _, _ => none
def itemsOf (S : Sto) : D → Option (List D)
  | .tup ds => some ds
  | .ref l => match S[l]? with
    | some (.lst ds) => some ds
    | some (.rls ds) => some ds
    | _ => none
  | _ => none
def intsOf : List D → Option (List Int)
  | [] => some []
  | .int i :: r => (intsOf r).map (i :: ·)
  | _ => none
def blsOf : List D → Option (List Bool)
  | [] => some []
  | .bl i :: r => (blsOf r).map (i :: ·)
  | _ => none

/-- == of flat things -/
def flEq : D → D → Bool
  | .non, .non => true
  | .bl a, .bl b => a == b
  | .bl a, .int b => (if a then 1 else 0) == b
  | .int a, .bl b => a == (if b then 1 else 0)
  | .int a, .int b => a == b
  | .str a, .str b => a == b
  | _, _ => false
/-- x in these -/
def memD (x : D) (ds : List D) : Option Bool := if isFlat x && ds.all isFlat then some (ds.any fun d => flEq d x) else none
/-! ### operators -/
noncomputable def binD (o : BO) (x y : D) (S : Sto) : Res D := match o, x, y with
  | .add, .int i, .int j => .ok (.int (i + j)) S
  | .sub, .int i, .int j => .ok (.int (i - j)) S
  | .mul, .int i, .int j => if (-(2 ^ 64) < i ∧ i < 2 ^ 64) ∨ (-(2 ^ 64) < j ∧ j < 2 ^ 64) then .ok (.int (i * j)) S else .bad
  | .mod, .int i, .int j => if 0 < j then .ok (.int (i % j)) S else .bad
  | .div, .int i, .int j => if 0 < j ∧ j < 2 ^ 64 then .ok (.int (i / j)) S else .bad
  | .pow, .int i, .int j => if 0 ≤ j ∧ j ≤ 1000000 ∧ i.natAbs < 2 ^ 64 then .ok (.int (i ^ j.toNat)) S else .bad
  | .add, .tup a, .tup b => if a.length + b.length ≤ sizeLine then .ok (.tup (a ++ b)) S else .bad
  | .add, .ref l, .ref m => match S[l]?, S[m]? with
    | some (.lst a), some (.lst b) => if a.length + b.length ≤ sizeLine then .ok (.ref S.length) (S ++ [.lst (a ++ b)]) else .bad
    | _, _ => .bad
  | .mul, .ref l, .int k => match S[l]? with
    | some (.lst a) => if -(2 ^ 63) ≤ k ∧ k < 2 ^ 63 ∧ a.length * k.toNat ≤ sizeLine then .ok (.ref S.length) (S ++ [.lst (List.replicate k.toNat a).flatten]) else .bad
    | _ => .bad
  | _, _, _ => .bad
noncomputable def cmpD (o : CO) (x y : D) (S : Sto) : Option Bool := match o with
  | .eq => eqD S x y
  | .ne => (eqD S x y).map (!·)
  | .lt => match x, y with
    | .int i, .int j => some (decide (i < j))
    | _, _ => none
  | .le => match x, y with
    | .int i, .int j => some (decide (i ≤ j))
    | _, _ => none
  | .gt => match x, y with
    | .int i, .int j => some (decide (j < i))
    | _, _ => none
  | .ge => match x, y with
    | .int i, .int j => some (decide (j ≤ i))
    | _, _ => none
  | .in_ => (itemsOf S y).bind (memD x)
  | .nin => ((itemsOf S y).bind (memD x)).map (!·)
  | .is_ => match y with
    | .non => some (match x with | .non => true | _ => false)
    | .bl b => match x with
      | .bl a => some (decide (a = b))
      | _ => none
    | _ => none
  | .isn => match y with
    | .non => some (match x with | .non => false | _ => true)
    | _ => none
def truth (S : Sto) : D → Option Bool
  | .non => some false
  | .bl b => some b
  | .int i => some (i != 0)
  | .str s => if s.length ≤ sizeLine then some ((s.length : Int) != 0) else none
  | .tup ds => some (!ds.isEmpty)
  | .ref l => match S[l]? with
    | some (.lst ds) => some (!ds.isEmpty)
    | _ => none
/-- an item by its place, also from the end -/
def atD (ds : List D) (i : Int) : Option D := atI ds i
def idxD (S : Sto) (x i : D) : Option D := match x, i with
  | .tup ds, .int k => atI ds k
  | .ref l, .int k => match S[l]? with
    | some (.lst ds) => atI ds k
    | some (.rls ds) => atI ds k
    | _ => none
  | .str s, .int k => if s.length ≤ sizeLine then (atI s.cps.toList k).map fun c => .str ⟨#[c]⟩ else none
  | _, _ => none
def cutL (ds : List D) (lo hi : Option Int) : List D := (ds.drop (HT.sIx ds.length 0 lo)).take (HT.sIx ds.length ds.length hi - HT.sIx ds.length 0 lo)
def partD : Option D → Option (Option Int)
  | none => some none
  | some (.int i) => some (some i)
  | _ => none
def cutD (S : Sto) (x : D) (lo hi : Option Int) : Res D := match x with
  | .tup ds => .ok (.tup (cutL ds lo hi)) S
  | .ref l => match S[l]? with
    | some (.lst ds) => .ok (.ref S.length) (S ++ [.lst (cutL ds lo hi)])
    | some (.rls ds) => .ok (.ref S.length) (S ++ [.lst (cutL ds lo hi)])
    | _ => .bad
  | _ => .bad
noncomputable def bLen (vs : List D) (S : Sto) : Res D := match vs with
  | [.str s] => if s.length ≤ sizeLine then .ok (.int s.length) S else .bad
  | [x] => match itemsOf S x with
    | some ds => .ok (.int ds.length) S
    | none => .bad
  | _ => .bad
def bAbs (vs : List D) (S : Sto) : Res D := match vs with
  | [.int i] => .ok (.int (if i < 0 then -i else i)) S
  | _ => .bad
def bInt (vs : List D) (S : Sto) : Res D := match vs with
  | [.int i] => .ok (.int i) S
  | [.bl b] => .ok (.int (if b then 1 else 0)) S
  | _ => .bad
def bTup (vs : List D) (S : Sto) : Res D := match vs with
  | [x] => match itemsOf S x with
    | some ds => .ok (.tup ds) S
    | none => .bad
  | _ => .bad
def bLst (vs : List D) (S : Sto) : Res D := match vs with
  | [x] => match itemsOf S x with
    | some ds => .ok (.ref S.length) (S ++ [.lst ds])
    | none => .bad
  | _ => .bad
noncomputable def bRepr (vs : List D) (S : Sto) : Res D := match vs with
  | [x] => match pd S 60 x with
    | some p => if p.showable = true ∧ p.shown.length ≤ sizeLine then .ok (.str p.shown) S else .bad
    | none => .bad
  | _ => .bad
def bTwo (f : Int → Int → Int) (vs : List D) (S : Sto) : Res D := match vs with
  | [.int i, .int j] => .ok (.int (f i j)) S
  | _ => .bad
def lstOf (S : Sto) : D → Option (List D)
  | .ref l => match S[l]? with
    | some (.lst ds) => some ds
    | _ => none
  | _ => none
def bInts (f : List Int → D) (vs : List D) (S : Sto) : Res D := match vs with
  | [x] => match (lstOf S x).bind intsOf with
    | some ns => .ok (f ns) S
    | none => .bad
  | _ => .bad
def bBls (f : List Bool → D) (vs : List D) (S : Sto) : Res D := match vs with
  | [x] => match (lstOf S x).bind blsOf with
    | some ns => .ok (f ns) S
    | none => .bad
  | _ => .bad
/-- the int ahead in a pair -/
def keyD : D → Option Int
  | .tup [.int k, _] => some k
  | _ => none
def keysD : List D → Option (List Int)
  | [] => some []
  | d :: ds => match keyD d, keysD ds with
    | some k, some ks => some (k :: ks)
    | _, _ => none
def insK {α : Type} (p : Int × α) : List (Int × α) → List (Int × α)
  | [] => [p]
  | q :: r => if p.1 < q.1 then p :: q :: r else q :: insK p r
def sortK {α : Type} : List (Int × α) → List (Int × α)
  | [] => []
  | p :: r => insK p (sortK r)
def sortL {α : Type} (ks : List Int) (xs : List α) : List α := (sortK (ks.zip xs)).map (·.2)
noncomputable def bSort (vs : List D) (S : Sto) : Res D := match vs with
  | [x] => match lstOf S x with
    | some ds => match keysD ds with
      | some ks => if ks.Nodup then .ok (.ref S.length) (S ++ [.lst (sortL ks ds)]) else .bad
      | none => .bad
    | none => .bad
  | _ => .bad
noncomputable def bifD (f : BF) (vs : List D) (S : Sto) : Res D := match f with
  | .len => bLen vs S
  | .abs => bAbs vs S
  | .int => bInt vs S
  | .tup => bTup vs S
  | .lst => bLst vs S
  | .repr => bRepr vs S
  | .sum => bInts (fun ns => .int ns.sum) vs S
  | .all => bBls (fun ns => .bl (ns.all id)) vs S
  | .any => bBls (fun ns => .bl (ns.any id)) vs S
  | .min2 => bTwo (fun i j => if j < i then j else i) vs S
  | .max2 => bTwo (fun i j => if j > i then j else i) vs S
  | .sorted => bSort vs S
  | _ => .bad
noncomputable def mAppend (o : D) (vs : List D) (S : Sto) : Res D := match o, vs with
  | .ref l, [y] => match S[l]? with
    | some (.lst ds) => if ds.length < sizeLine then .ok .non (S.set l (.lst (ds ++ [y]))) else .bad
    | _ => .bad
  | _, _ => .bad
def mPop0 (o : D) (vs : List D) (S : Sto) : Res D := match o, vs with
  | .ref l, [] => match S[l]? with
    | some (.lst ds) => match ds[ds.length - 1]? with
      | some y => .ok y (S.set l (.lst ds.dropLast))
      | none => .bad
    | _ => .bad
  | _, _ => .bad
noncomputable def mPop1 (o : D) (vs : List D) (S : Sto) : Res D := match o, vs with
  | .ref l, [.int i] => match S[l]? with
    | some (.lst ds) => if -(2 ^ 63) ≤ i ∧ i < 2 ^ 63 then (match seqIndex? i ds.length with
        | some k => match ds[k]? with
          | some y => .ok y (S.set l (.lst (ds.eraseIdx k)))
          | none => .bad
        | none => .bad)
      else .bad
    | _ => .bad
  | _, _ => .bad
noncomputable def mthD (m : MF) (o : D) (vs : List D) (S : Sto) : Res D := match m with
  | .append => mAppend o vs S
  | .pop0 => mPop0 o vs S
  | .pop1 => mPop1 o vs S
/-- it is a list that may change -/
def isL (S : Sto) : D → Bool
  | .ref l => match S[l]? with
    | some (.lst _) => true
    | _ => false
  | _ => false
/-- isinstance: of what is no object of the program's own, by the class's name; an exception by the program's classes -/
def isiD (P : Pg) (S : Sto) (x : D) (c : Str) : Option Bool := match x with
  | .non => if c = "int" ∨ c = "bool" ∨ c = "str" ∨ c = "tuple" then some false else none
  | .bl _ => if c = "int" ∨ c = "bool" then some true else if c = "str" ∨ c = "tuple" then some false else none
  | .int _ => if c = "int" then some true else if c = "bool" ∨ c = "str" ∨ c = "tuple" then some false else none
  | .str _ => if c = "str" then some true else if c = "bool" ∨ c = "int" ∨ c = "tuple" then some false else none
  | .tup _ => if c = "tuple" then some true else if c = "bool" ∨ c = "int" ∨ c = "str" then some false else none
  | .ref l => match S[l]? with
    | some (.exc k _) => if P.cls.contains c = true ∨ c = "ValueError" then some (P.sub k c) else none
    | some (.lst _) => if c = "int" ∨ c = "bool" ∨ c = "str" ∨ c = "tuple" then some false else none
    | _ => none
def isiDs (P : Pg) (S : Sto) (x : D) : List Str → Option Bool
  | [] => some false
  | c :: cs => match isiD P S x c with
    | some true => some true
    | some false => isiDs P S x cs
    | none => none
def fldD (S : Sto) (x : D) (f : Str) : Option D := match x with
  | .ref l => match S[l]? with
    | some (.exc _ fs) => fs.lookup f
    | _ => none
  | _ => none
/-! ### targets, what a loop walks -/
def kill : List Nat → Ro → Ro
  | [], ρ => ρ
  | i :: r, ρ => (kill r ρ).set i none
def putN (i : Nat) (d : D) (ρ : Ro) : Option Ro := if i < ρ.length then some (ρ.set i (some d)) else none
def putNs : List Nat → List D → Ro → Option Ro
  | [], [], ρ => some ρ
  | i :: is, d :: ds, ρ => (putN i d ρ).bind (putNs is ds)
  | _, _, _ => none
def putT (t : Tg) (d : D) (ρ : Ro) : Option Ro := match t with
  | .nm i => putN i d ρ
  | .tp is => match d with
    | .tup ds => putNs is ds ρ
    | _ => none
/-- what is walked: the items; the place of the list that must not change meanwhile -/
structure Wk where
  items : List D
  hold : List (Nat × List D)
def Wk.held (w : Wk) (S : Sto) : Prop := ∀ p, p ∈ w.hold → S[p.1]? = some (.lst p.2) ∨ S[p.1]? = some (.rls p.2)
open Classical in
noncomputable def wkSeq (S0 : Sto) (v : D) (S : Sto) : Res Wk := match v with
  | .tup ds => .ok ⟨ds, []⟩ S
  | .ref l => match S[l]? with
    | some (.lst ds) => if S0.length ≤ l ∧ lows S0.length ds = true ∧ S0.length ≤ S.length ∧ (∀ l, l < S0.length → S[l]? = S0[l]? ∨ ∃ o, S[l]? = some o ∧ o.low S0.length = true) then .ok ⟨ds, []⟩ (S.take S0.length) else .ok ⟨ds, [(l, ds)]⟩ S
    | some (.rls ds) => .ok ⟨ds, [(l, ds)]⟩ S
    | _ => .bad
  | .str s => .ok ⟨s.cps.toList.map fun c => .str ⟨#[c]⟩, []⟩ S
  | _ => .bad
/-- a list alone -/
noncomputable def wkLst (S0 : Sto) (v : D) (S : Sto) : Res Wk := match v with
  | .ref l => wkSeq S0 (.ref l) S
  | _ => .bad
def rangeD (lo hi : Int) : List D := (List.range (hi - lo).toNat).map fun (i : Nat) => .int (lo + i)
inductive Fl
  | nx | bk | ct | rt (d : D)
/-- a statement's end: how, the names, the store; or an exception at names and store -/
inductive Sr where
  | ok (f : Fl) (ρ : Ro) (S : Sto)
  | exc (c : Str) (fs : List (Str × D)) (ρ : Ro) (S : Sto)
  | bad
/-- from an expression's end -/
def Res.st {α : Type} (r : Res α) (ρ : Ro) (f : α → Sto → Sr) : Sr := match r with
  | .ok a S => f a S
  | .exc c fs S => .exc c fs ρ S
  | .bad => .bad
@[simp] theorem st_ok {α : Type} (a : α) (S : Sto) (ρ : Ro) (f : α → Sto → Sr) : (Res.ok a S).st ρ f = f a S := rfl
@[simp] theorem st_exc {α : Type} (c : Str) (fs : List (Str × D)) (S : Sto) (ρ : Ro) (f : α → Sto → Sr) : (Res.exc c fs S : Res α).st ρ f = .exc c fs ρ S := rfl
@[simp] theorem st_bad {α : Type} (ρ : Ro) (f : α → Sto → Sr) : (Res.bad : Res α).st ρ f = .bad := rfl
def Sr.nx (r : Sr) (f : Ro → Sto → Sr) : Sr := match r with
  | .ok .nx ρ S => f ρ S
  | r => r
@[simp] theorem nx_nx (ρ : Ro) (S : Sto) (f : Ro → Sto → Sr) : (Sr.ok .nx ρ S).nx f = f ρ S := rfl
@[simp] theorem nx_rt (d : D) (ρ : Ro) (S : Sto) (f : Ro → Sto → Sr) : (Sr.ok (.rt d) ρ S).nx f = .ok (.rt d) ρ S := rfl
@[simp] theorem nx_bk (ρ : Ro) (S : Sto) (f : Ro → Sto → Sr) : (Sr.ok .bk ρ S).nx f = .ok .bk ρ S := rfl
@[simp] theorem nx_ct (ρ : Ro) (S : Sto) (f : Ro → Sto → Sr) : (Sr.ok .ct ρ S).nx f = .ok .ct ρ S := rfl
@[simp] theorem nx_exc (c : Str) (fs : List (Str × D)) (ρ : Ro) (S : Sto) (f : Ro → Sto → Sr) : (Sr.exc c fs ρ S).nx f = .exc c fs ρ S := rfl
@[simp] theorem nx_bad (f : Ro → Sto → Sr) : Sr.bad.nx f = .bad := rfl

section
variable (P : Pg) (call : Str → List D → Sto → Res D)
open Classical in
/-- a comprehension's items: turn gives none where a test fails; no exception comes out of it -/
noncomputable def compL (hold : Sto → Prop) (turn : D → Sto → Res (Option D)) : List D → Sto → Res (List D)
  | [], S => if hold S then .ok [] S else .bad
  | x :: r, S => if hold S then match turn x S with
      | .ok o S1 => match compL hold turn r S1 with
        | .ok ds S2 => .ok (match o with
          | some d => d :: ds
          | none => ds) S2
        | _ => .bad
      | _ => .bad
    else .bad
mutual
noncomputable def evE : Ex → Ro → Sto → Res D
  | .lit d, _, S => .ok d S
  | .loc i, ρ, S => match ρ[i]? with
    | some (some d) => .ok d S
    | _ => .bad
  | .con y _, _, S => Res.of (P.con y) S
  | .neg a, ρ, S => (evE a ρ S).bind fun x S => match x with
    | .int i => .ok (.int (-i)) S
    | _ => .bad
  | .bin o a b, ρ, S => (evE a ρ S).bind fun x S => (evE b ρ S).bind fun y S => binD o x y S
  | .cmp o a b, ρ, S => (evE a ρ S).bind fun x S => (evE b ρ S).bind fun y S => (Res.of (cmpD o x y S) S).bind fun k S => .ok (.bl k) S
  | .chn o p a b c, ρ, S => (evE a ρ S).bind fun x S => (evE b ρ S).bind fun y S => (Res.of (cmpD o x y S) S).bind fun k S => match k with
    | true => (evE c ρ S).bind fun z S => (Res.of (cmpD p y z S) S).bind fun k S => .ok (.bl k) S
    | false => .ok (.bl false) S
  | .and as, ρ, S => evAnd as ρ S
  | .or as, ρ, S => evOr as ρ S
  | .not a, ρ, S => (evE a ρ S).bind fun x S => match x with
    | .bl k => .ok (.bl (!k)) S
    | _ => .bad
  | .tup as, ρ, S => (evEs as ρ S).bind fun xs S => if xs.length ≤ sizeLine then .ok (.tup xs) S else .bad
  | .lst as, ρ, S => (evEs as ρ S).bind fun xs S => if xs.length ≤ sizeLine then .ok (.ref S.length) (S ++ [.lst xs]) else .bad
  | .idx a i, ρ, S => (evE a ρ S).bind fun x S => (evE i ρ S).bind fun y S => Res.of (idxD S x y) S
  | .cut a lo hi, ρ, S => (evE a ρ S).bind fun x S => (evP lo ρ S).bind fun l S => (evP hi ρ S).bind fun h S => cutD S x l h
  | .call f as, ρ, S => (evEs as ρ S).bind fun xs S => call f xs S
  | .bif f as, ρ, S => (evEs as ρ S).bind fun xs S => bifD f xs S
  | .mth m o as, ρ, S => (evE o ρ S).bind fun x S => if isL S x = true then (evEs as ρ S).bind fun xs S => mthD m x xs S else .bad
  | .isi a cs _, ρ, S => (evE a ρ S).bind fun x S => (Res.of (isiDs P S x cs) S).bind fun k S => .ok (.bl k) S
  | .fld a f, ρ, S => (evE a ρ S).bind fun x S => Res.of (fldD S x f) S
  | .comp e t it c own, ρ, S => (evI it ρ S).bind fun w S => (compL w.held (fun x S => match putT t x (kill own ρ) with
      | some ρ1 => (evT c ρ1 S).bind fun k S1 => match k with
        | true => (evE e ρ1 (gc S [] S1)).bind fun d S2 => .ok (some d) (gc S [d] S2)
        | false => .ok none (gc S [] S1)
      | none => .bad) w.items S).bind fun ds S => if ds.length ≤ sizeLine then .ok (.ref S.length) (S ++ [.lst ds]) else .bad
/-- values that must be truths but the last -/
noncomputable def evAnd : Exs → Ro → Sto → Res D
  | .nil, _, _ => .bad
  | .cons a .nil, ρ, S => evE a ρ S
  | .cons a r, ρ, S => (evE a ρ S).bind fun x S => match x with
    | .bl true => evAnd r ρ S
    | .bl false => .ok (.bl false) S
    | _ => .bad
noncomputable def evOr : Exs → Ro → Sto → Res D
  | .nil, _, _ => .bad
  | .cons a .nil, ρ, S => evE a ρ S
  | .cons a r, ρ, S => (evE a ρ S).bind fun x S => match x with
    | .bl true => .ok (.bl true) S
    | .bl false => evOr r ρ S
    | _ => .bad
noncomputable def evEs : Exs → Ro → Sto → Res (List D)
  | .nil, _, S => .ok [] S
  | .cons a r, ρ, S => (evE a ρ S).bind fun x S => (evEs r ρ S).bind fun xs S => .ok (x :: xs) S
/-- a bound of a slice -/
noncomputable def evP : Pt → Ro → Sto → Res (Option Int)
  | .no, _, S => .ok none S
  | .at a, ρ, S => (evE a ρ S).bind fun x S => match x with
    | .int i => .ok (some i) S
    | _ => .bad
/-- a test -/
noncomputable def evT : Tx → Ro → Sto → Res Bool
  | .yes, _, S => .ok true S
  | .val a, ρ, S => (evE a ρ S).bind fun x S => Res.of (truth S x) S
  | .and as, ρ, S => evTA as ρ S
  | .or as, ρ, S => evTO as ρ S
  | .not a, ρ, S => (evT a ρ S).bind fun k S => .ok (!k) S
noncomputable def evTA : Txs → Ro → Sto → Res Bool
  | .nil, _, S => .bad
  | .cons a .nil, ρ, S => evT a ρ S
  | .cons a r, ρ, S => (evT a ρ S).bind fun k S => if k = true then evTA r ρ S else .ok false S
noncomputable def evTO : Txs → Ro → Sto → Res Bool
  | .nil, _, S => .bad
  | .cons a .nil, ρ, S => evT a ρ S
  | .cons a r, ρ, S => (evT a ρ S).bind fun k S => if k = true then .ok true S else evTO r ρ S
noncomputable def evI : Iw → Ro → Sto → Res Wk
  | .seq a, ρ, S => (evE a ρ S).bind fun v S1 => wkSeq S v S1
  | .rng1 a, ρ, S => (evE a ρ S).bind fun v S => match v with
    | .int j => if j ≤ 1000000 ∧ -(2 ^ 62) ≤ j then .ok ⟨rangeD 0 j, []⟩ S else .bad
    | _ => .bad
  | .rng2 a b, ρ, S => (evE a ρ S).bind fun v S => (evE b ρ S).bind fun u S => match v, u with
    | .int i, .int j => if -1000000 ≤ i ∧ i ≤ 1000000 ∧ j ≤ 1000000 ∧ -1000000 ≤ j then .ok ⟨rangeD i j, []⟩ S else .bad
    | _, _ => .bad
  | .enum a, ρ, S => (evE a ρ S).bind fun v S1 => (wkLst S v S1).bind fun w S => .ok ⟨w.items.mapIdx fun (i : Nat) x => .tup [.int i, x], w.hold⟩ S
  | .zip a b, ρ, S => (evE a ρ S).bind fun v S1 => (wkSeq S v S1).bind fun w S => (evE b ρ S).bind fun u S1 => (wkSeq S u S1).bind fun w2 S => .ok ⟨(w.items.zip w2.items).map fun p => .tup [p.1, p.2], w.hold ++ w2.hold⟩ S
end

/-! ### statements -/
open Classical in
/-- a for's turns: step runs the body at an item; its names that are no longer wanted go behind each turn -/
noncomputable def forL (hold : Sto → Prop) (kl : List Nat) (step : D → Ro → Sto → Sr) : List D → Ro → Sto → Sr
  | [], ρ, S => if hold S then .ok .nx ρ S else .bad
  | x :: r, ρ, S => if hold S then match step x ρ S with
      | .ok .nx ρ1 S1 => forL hold kl step r (kill kl ρ1) S1
      | .ok .ct ρ1 S1 => forL hold kl step r (kill kl ρ1) S1
      | .ok .bk ρ1 S1 => .ok .nx (kill kl ρ1) S1
      | .ok (.rt d) ρ1 S1 => .ok (.rt d) ρ1 S1
      | .exc c fs ρ1 S1 => .exc c fs ρ1 S1
      | .bad => .bad
    else .bad
/-- one turn of a while: on with other names and store, or the end -/
inductive Wh where
  | on (ρ : Ro) (S : Sto)
  | out (r : Sr)
def iterW (turn : Ro → Sto → Wh) : Nat → Ro → Sto → Wh
  | 0, ρ, S => .on ρ S
  | n + 1, ρ, S => match turn ρ S with
    | .on ρ1 S1 => iterW turn n ρ1 S1
    | .out r => .out r
open Classical in
/-- a while's end, if it has one -/
noncomputable def whL (turn : Ro → Sto → Wh) (ρ : Ro) (S : Sto) : Sr :=
  if h : ∃ n r, iterW turn n ρ S = .out r then (Classical.choose_spec h |> fun _ => Classical.choose (Classical.choose_spec h)) else .bad
theorem iterW_out {turn : Ro → Sto → Wh} : ∀ {n m : Nat} {ρ : Ro} {S : Sto} {r r' : Sr}, iterW turn n ρ S = .out r → iterW turn m ρ S = .out r' → r = r'
  | 0, _, _, _, _, _, h, _ => by cases h
  | _ + 1, 0, _, _, _, _, _, h => by cases h
  | n + 1, m + 1, ρ, S, r, r', h, h' => by
    simp only [iterW] at h h'
    cases e : turn ρ S with
    | on ρ1 S1 =>
      rw [e] at h h'
      exact iterW_out h h'
    | out q =>
      rw [e] at h h'
      cases h
      cases h'
      rfl
theorem whL_of {turn : Ro → Sto → Wh} {n : Nat} {ρ : Ro} {S : Sto} {r : Sr} (h : iterW turn n ρ S = .out r) : whL turn ρ S = r := by
  have q : ∃ n r, iterW turn n ρ S = .out r := ⟨n, r, h⟩
  unfold whL
  rw [dif_pos q]
  exact iterW_out (Classical.choose_spec (Classical.choose_spec q)) h
theorem whL_end {turn : Ro → Sto → Wh} {ρ : Ro} {S : Sto} (h : whL turn ρ S ≠ .bad) : ∃ n, iterW turn n ρ S = .out (whL turn ρ S) := by
  by_cases q : ∃ n r, iterW turn n ρ S = .out r
  · obtain ⟨n, r, e⟩ := q
    exact ⟨n, by rw [whL_of e, e]⟩
  · exfalso
    apply h
    unfold whL
    rw [dif_neg q]
theorem whL_on {turn : Ro → Sto → Wh} {ρ ρ1 : Ro} {S S1 : Sto} (h : turn ρ S = .on ρ1 S1) : whL turn ρ S = whL turn ρ1 S1 := by
  by_cases q : ∃ n r, iterW turn n ρ1 S1 = .out r
  · obtain ⟨n, r, e⟩ := q
    have e2 : iterW turn (n + 1) ρ S = .out r := by
      simp only [iterW, h]
      exact e
    rw [whL_of e, whL_of e2]
  · have q2 : ¬ ∃ n r, iterW turn n ρ S = .out r := by
      rintro ⟨n, r, e⟩
      cases n with
      | zero => cases e
      | succ n =>
        simp only [iterW, h] at e
        exact q ⟨n, r, e⟩
    unfold whL
    rw [dif_neg q, dif_neg q2]
theorem whL_out {turn : Ro → Sto → Wh} {ρ : Ro} {S : Sto} {r : Sr} (h : turn ρ S = .out r) : whL turn ρ S = r := whL_of (n := 1) (by simp only [iterW, h])
def lowR (n : Nat) : Ro → Bool
  | [] => true
  | none :: r => lowR n r
  | some d :: r => d.low n && lowR n r
def Fl.low (n : Nat) : Fl → Bool
  | .rt d => d.low n
  | _ => true
open Classical in
/-- behind an except suite: the exception's place goes (and whatever was laid behind it) -/
noncomputable def sufL (n i : Nat) : Sr → Sr
  | .ok f ρ S => if f.low n = true ∧ lowR n (ρ.set i none) = true ∧ n ≤ S.length ∧ (∀ l o, l < n → S[l]? = some o → o.low n = true ∧ o.isExc = false) then .ok f (ρ.set i none) (S.take n) else .bad
  | _ => .bad
mutual
noncomputable def evS : Sm → Ro → Sto → Sr
  | .asg t e, ρ, S => (evE P call e ρ S).st ρ fun d S1 => match putT t d ρ with
    | some ρ1 => .ok .nx ρ1 (gc S [d] S1)
    | none => .bad
  | .asgI o i e, ρ, S => (evE P call e ρ S).st ρ fun d S1 => (evE P call o ρ S1).st ρ fun x S2 => (evE P call i ρ S2).st ρ fun y S3 => match x, y with
    | .ref l, .int k => match S3[l]? with
      | some (.lst ds) => match ixN ds.length k with
        | some j => .ok .nx ρ (gc S [] (S3.set l (.lst (ds.set j d))))
        | none => .bad
      | _ => .bad
    | _, _ => .bad
  | .aug i o e, ρ, S => match ρ[i]? with
    | some (some (.int a)) => (evE P call e ρ S).st ρ fun d S1 => match o, d with
      | .add, .int b => match putN i (.int (a + b)) ρ with
        | some ρ1 => .ok .nx ρ1 (gc S [] S1)
        | none => .bad
      | _, _ => .bad
    | _ => .bad
  | .ex e, ρ, S => (evE P call e ρ S).st ρ fun _ S1 => .ok .nx ρ (gc S [] S1)
  | .ret e, ρ, S => (evE P call e ρ S).st ρ fun d S1 => .ok (.rt d) ρ S1
  | .iff c a b, ρ, S => (evT P call c ρ S).st ρ fun k S1 => if k = true then evSs a ρ (gc S [] S1) else evSs b ρ (gc S [] S1)
  | .for_ t it b kl, ρ, S => (evI P call it ρ S).st ρ fun w S1 => forL w.held kl (fun x ρ1 S2 => match putT t x ρ1 with
      | some ρ2 => evSs b ρ2 S2
      | none => .bad) w.items ρ S1
  | .whl c b kl, ρ, S => whL (fun ρ S => match evT P call c ρ S with
      | .ok true S1 => match evSs b ρ (gc S [] S1) with
        | .ok .nx ρ1 S2 => .on (kill kl ρ1) S2
        | .ok .ct ρ1 S2 => .on (kill kl ρ1) S2
        | .ok .bk ρ1 S2 => .out (.ok .nx (kill kl ρ1) S2)
        | r => .out r
      | .ok false S1 => .out (.ok .nx ρ (gc S [] S1))
      | .exc c fs S1 => .out (.exc c fs ρ S1)
      | .bad => .out .bad) ρ S
  | .raise c as, ρ, S => match P.flds c with
    | none => .exc c [] ρ S
    | some [f] => (evEs P call as ρ S).st ρ fun xs S1 => match xs with
      | [x] => .exc c [(f, x)] ρ S1
      | _ => .bad
    | _ => .bad
  | .tryAs b c i h, ρ, S => match evSs b ρ S with
    | .exc k fs ρ1 S1 => if P.cls.contains k = true ∧ P.cls.contains c = true then if P.sub k c = true then (match putN i (.ref S1.length) ρ1 with
        | some ρ2 => sufL S1.length i (evSs h ρ2 (S1 ++ [.exc k fs]))
        | none => .bad) else .exc k fs ρ1 S1 else .bad
    | r => r
  | .pass, ρ, S => .ok .nx ρ S
noncomputable def evSs : Sms → Ro → Sto → Sr
  | .nil, ρ, S => .ok .nx ρ S
  | .cons a r, ρ, S => (evS a ρ S).nx fun ρ1 S1 => evSs r ρ1 S1
end
end

/-! ### defs -/
structure Df where
  np : Nat
  ns : Nat
  body : Sms
def start (ns : Nat) (vs : List D) : Ro := vs.map some ++ List.replicate (ns - vs.length) none
/-- a call, so many calls deep -/
noncomputable def callF (P : Pg) (T : Str → Option Df) : Nat → Str → List D → Sto → Res D
  | 0, _, _, _ => .bad
  | k + 1, f, vs, S => match T f with
    | some d => if vs.length = d.np ∧ d.np ≤ d.ns then (match evSs P (callF P T k) d.body (start d.ns vs) S with
        | .ok .nx _ S1 => .ok .non (gc S [] S1)
        | .ok (.rt v) _ S1 => .ok v (gc S [v] S1)
        | .exc c fs _ S1 => .exc c fs (gc S (fs.map (·.2)) S1)
        | _ => .bad) else .bad
    | none => .bad
end WL
end
section
set_option Elab.async false
set_option linter.all false
set_option maxRecDepth 100000
set_option maxHeartbeats 4000000
/-! WC: what is wanted behind a run, contexts, promises; Python's syntax held against ours. -/
namespace WL
open PySem L2
/-! ### what is wanted -/
section
variable {α β : Type}
/-- the run's end gives what is wanted -/
def Pst (K : PySem.W.Frag) (cl : Cl) (m : Md) (W : WX) (R : Hp → Pls → α → β → Prop) (σ : St) (ι : Pls) (H : Hp) (r : Res α) (Q : β → Hp → Prop) : Prop := match r with
  | .ok d S' => ∀ v H' ι', Step ι H ι' H' → RS K cl m H' ι' S' → R H' ι' d v → Q v H'
  | .exc c fs S' => ∀ dd H' ι', Step ι H ι' H' → RS K cl m H' ι' S' → RX K H' ι' fs dd → W (.ref (cl c)) dd σ H'
  | .bad => False
variable {K : PySem.W.Frag} {cl : Cl} {m : Md} {W : WX} {R : Hp → Pls → α → β → Prop} {σ : St} {ι ι1 : Pls} {H H1 : Hp} {Q : β → Hp → Prop}
theorem Pst.step {r : Res α} (st : Step ι H ι1 H1) (h : Pst K cl m W R σ ι H r Q) : Pst K cl m W R σ ι1 H1 r Q := by
  cases r with
  | ok d S' => exact fun v H' ι' s2 => h v H' ι' (st.trans s2)
  | exc c fs S' => exact fun dd H' ι' s2 => h dd H' ι' (st.trans s2)
  | bad => exact h
variable {γ δ : Type} {R2 : Hp → Pls → γ → δ → Prop} {Q2 : δ → Hp → Prop}
theorem Pst.of_bind {r : Res α} {f : α → Sto → Res γ} (h : Pst K cl m W R2 σ ι H (r.bind f) Q2)
    (k : ∀ d S1 v H1 ι1, r = .ok d S1 → Step ι H ι1 H1 → RS K cl m H1 ι1 S1 → R H1 ι1 d v → Pst K cl m W R2 σ ι1 H1 (f d S1) Q2 → Q v H1) : Pst K cl m W R σ ι H r Q := by
  cases r with
  | ok d S1 => exact fun v H1 ι1 st rs rv => k d S1 v H1 ι1 rfl st rs rv (Pst.step st h)
  | exc c fs S1 => exact h
  | bad => exact h
theorem Pst.bind_of {r : Option α} {S : Sto} {f : α → Sto → Res γ} (h : Pst K cl m W R2 σ ι H ((Res.of r S).bind f) Q2) : ∃ a, r = some a ∧ Pst K cl m W R2 σ ι H (f a S) Q2 := by
  cases r with
  | none => exact h.elim
  | some a => exact ⟨a, rfl, h⟩
theorem Pst.of {r : Option α} {S : Sto} (h : Pst K cl m W R σ ι H (Res.of r S) Q) : ∃ a, r = some a ∧ Pst K cl m W R σ ι H (.ok a S) Q := by
  cases r with
  | none => exact h.elim
  | some a => exact ⟨a, rfl, h⟩
end
def RB : Hp → Pls → Bool → Bool → Prop := fun _ _ a b => b = a
def RP : Hp → Pls → Option Int → Option Int → Prop := fun _ _ a b => b = a
section
variable (K : PySem.W.Frag) (cl : Cl) (m : Md) (W : WX)
abbrev PstE := Pst (α := D) (β := V) K cl m W (RV K)
abbrev PstA := Pst (α := List D) (β := List V) K cl m W (RVs K)
abbrev PstT := Pst (α := Bool) (β := Bool) K cl m W RB
abbrev PstP := Pst (α := Option Int) (β := Option Int) K cl m W RP
/-- the names, the store stand for slots and heap -/
def Go (ρ : Ro) (S : Sto) (ι : Pls) (σ : St) (H : Hp) : Prop := RE K H ι ρ σ ∧ RS K cl m H ι S
def tE (r : Ro → Sto → Res D) : TE := fun σ H Q => ∃ ρ S ι, Go K cl m ρ S ι σ H ∧ PstE K cl m W σ ι H (r ρ S) Q
def tA (r : Ro → Sto → Res (List D)) : TA := fun σ H Q => ∃ ρ S ι, Go K cl m ρ S ι σ H ∧ PstA K cl m W σ ι H (r ρ S) Q
def tT (r : Ro → Sto → Res Bool) : TT := fun σ H Q => ∃ ρ S ι, Go K cl m ρ S ι σ H ∧ PstT K cl m W σ ι H (r ρ S) Q
def tP (r : Ro → Sto → Res (Option Int)) : TO := fun σ H Q => ∃ ρ S ι, Go K cl m ρ S ι σ H ∧ PstP K cl m W σ ι H (r ρ S) Q
end
theorem Go.step {K : PySem.W.Frag} {cl : Cl} {m : Md} {ρ : Ro} {S S' : Sto} {ι ι' : Pls} {σ : St} {H H' : Hp} (g : Go K cl m ρ S ι σ H) (st : Step ι H ι' H') (r : RS K cl m H' ι' S') : Go K cl m ρ S' ι' σ H' := ⟨g.1.step st, r⟩
section
variable {X : Cx}
theorem PE.imp {e : Expr} {t t' : TE} (h : PE X e t) (f : ∀ σ H Q, t' σ H Q → t σ H Q) : PE X e t' := ⟨fun pins s σ H Q I q => h.run pins s σ H Q I (f σ H Q q)⟩
theorem PT.imp {e : Expr} {t t' : TT} (h : PT X e t) (f : ∀ σ H Q, t' σ H Q → t σ H Q) : PT X e t' := ⟨fun pins s σ H Q I q => h.run pins s σ H Q I (f σ H Q q)⟩
theorem PW.imp {e : Expr} {t t' : TT} (h : PW X e t) (f : ∀ σ H Q, t' σ H Q → t σ H Q) : PW X e t' := ⟨fun wh pins s σ H Q I q => h.run wh pins s σ H Q I (f σ H Q q)⟩
theorem PA.imp {e : List Expr} {t t' : TA} (h : PA X e t) (f : ∀ σ H Q, t' σ H Q → t σ H Q) : PA X e t' := ⟨fun p pins s σ H Q I q => h.run p pins s σ H Q I (f σ H Q q)⟩
theorem PO.imp {e : Option Expr} {t t' : TO} (h : PO X e t) (f : ∀ σ H Q, t' σ H Q → t σ H Q) : PO X e t' := ⟨fun pins s σ H Q I q => h.run pins s σ H Q I (f σ H Q q)⟩
theorem PS.imp {e : Stmt} {t t' : TS} (h : PS X e t) (f : ∀ D σ H, t' D σ H → t D σ H) : PS X e t' := ⟨fun pins s σ H D I q => h.run pins s σ H D I (f D σ H q)⟩
theorem PSs.imp {e : List Stmt} {t t' : TS} (h : PSs X e t) (f : ∀ D σ H, t' D σ H → t D σ H) : PSs X e t' := ⟨fun pins s σ H D I q => h.run pins s σ H D I (f D σ H q)⟩
end

/-! ### room, modes, promises -/
structure RoomG (k : Nat) (A : Around) : Prop where
  dp : A.depth + 3 * k + 5 < recursionLimit
  un : A.units + 16 * k + 200 < cLine
  gd : A.guards = some []
theorem RoomG.mono {j k : Nat} {A : Around} (r : RoomG k A) (h : j ≤ k) : RoomG j A := ⟨by have := r.dp; omega, by have := r.un; omega, r.gd⟩
theorem RoomG.deeper {k : Nat} {A : Around} (r : RoomG (k + 1) A) (env : Env) : RoomG k (A.deeper env) :=
  ⟨by have := r.dp; show A.depth + 1 + 3 * k + 5 < _; omega, by have := r.un; show A.units + 3 + 16 * k + 200 < _; omega, r.gd⟩
theorem RoomG.units {k : Nat} {A : Around} (r : RoomG k A) : A.units + 128 < cLine := by have := r.un; omega
theorem RoomG.cold {k : Nat} {A : Around} (r : RoomG k A) (h : A.handled = none) : Room k A := ⟨h, r.dp, r.un⟩
theorem RoomG.hot {k : Nat} {A : Around} (r : RoomG k A) : L2H.RoomH k A := ⟨r.dp, r.un⟩
/-- how a mode stands around a call -/
def ModeA (cl : Cl) (m : Md) (A : Around) (outer : List Env) (H : Hp) (s : Shared) : Prop := match m with
  | none => A.handled = none
  | some (a, c, d) => ∃ oe vs, L2H.Hot1 A (a, oe) ∧ L2H.PinOk outer H s (a, oe) ∧ L2N.Zn (.ref (cl c)) d oe ∧ oe.data = .fields vs
/-- .. in a context -/
def ModeX (cl : Cl) (m : Md) (X : Cx) : Prop := match m with
  | none => X.calm = true
  | some (a, c, d) => ∃ oe vs, L2H.Hot1 X.A (a, oe) ∧ (a, oe) ∈ X.pn ∧ L2N.Zn (.ref (cl c)) d oe ∧ oe.data = .fields vs
structure FnG (P : Program) (w : World) (K : PySem.W.Frag) (mg : Str → Option Value) (base : Heap) (cl : Cl) (k : Nat) (f : Addr) (fd : FuncData) (ps : List Str) (sp : Md → Sp) : Prop where
  len : ∀ m vs H Q E, sp m vs H Q E → vs.length = ps.length
  run : ∀ (A : Around) (outer : List Env) (s : Shared) (H : Hp) (args : Args) (us : List Value) (vs : List V) (Q : VK) (E : XK) (m : Md), RoomG (k + 3) A → ModeA cl m A outer H s → Env0 P w K mg base A outer s H → BindsTo s fd args (ps.zip us) → Vals vs us → sp m vs H Q E →
    codeAny (model P w) A (.call (.ref f) args) (CR (L2N.CX P w) outer P w H s Q E) s
/-- the promise of a def: what the interpreter says -/
def spF (K : PySem.W.Frag) (cl : Cl) (n : Nat) (call : List D → Sto → Res D) (m : Md) : Sp := fun vs H Q E => vs.length = n ∧ ∃ ds S ι, RVs K H ι ds vs ∧ RS K cl m H ι S ∧ PstE K cl m (fun c d _ H' => E c d H') [] ι H (call ds S) Q
/-- .. where an exception is handled only for what is checked so -/
def spG (K : PySem.W.Frag) (cl : Cl) (pc : List Str) (n : Nat) (hot : Bool) (call : List D → Sto → Res D) (m : Md) : Sp := fun vs H Q E => ((m = none ∨ hot = true) ∧ ∀ a c d, m = some (a, c, d) → pc.contains c = true) ∧ spF K cl n call m vs H Q E
theorem ModeX.at_call {cl : Cl} {m : Md} {X : Cx} {pins : List (Addr × Obj)} {σ : St} {H : Hp} {s : Shared} (h : ModeX cl m X) (I : Inv X pins σ H s) : ModeA cl m X.A X.stack H s := by
  cases m with
  | none => exact I.ok.hd h
  | some p =>
    obtain ⟨a, c, d⟩ := p
    obtain ⟨oe, vs, h1, h2, h3, h4⟩ := h
    have q := I.pin (a, oe) (List.mem_append_left _ h2)
    exact ⟨oe, vs, h1, ⟨q.1, q.2.1, fun hm => (List.mem_cons.mp (I.stkSub a hm)).elim q.2.2.1 q.2.2.2.1, q.2.2.2.2⟩, h3, h4⟩
/-- a scope as it runs, and as it is written -/
structure Sc where
  vis : Scope
  own : Scope
/-- what is known of the text -/
structure Ck where
  N : List Str
  fn : Str → Option Nat
  bn : List Str
  cls : List Str
  flds : List Str
  rz : List Str
  rn : List Str
  fh : List Str
  hot : Bool
/-- what the program must say of an exception's class -/
structure ExW (K : PySem.W.Frag) (D : Addr) : Prop where
  ga : PySem.W.findIn K (.ref D) "__getattribute__" = some (some (.builtin "BaseException.__getattribute__"))
  gt : PySem.W.findIn K (.ref D) "__getattr__" = some none
  sub : PySem.W.subIn K (.ref D) (.type "BaseException") = some true
  dct : PySem.W.hasDictIn K D = true
  ca : PySem.W.findIn K (.ref D) "__class__" = some (some (.builtin "object.__class__"))
  cn : PySem.W.specialIn K (.builtin "object.__class__") "__get__" = some (some (.builtin "getset_descriptor.__get__"))
  ct : PySem.W.takesIn K (.builtin "object.__class__") = some true
  cm : PySem.W.mroIn K D (.type "object") = some true
def exwB (K : PySem.W.Frag) (D : Addr) : Bool := He.eqO (PySem.W.findIn K (.ref D) "__getattribute__") (some (some (.builtin "BaseException.__getattribute__"))) && (He.eqO (PySem.W.findIn K (.ref D) "__getattr__") (some none) && (decide (PySem.W.subIn K (.ref D) (.type "BaseException") = some true) && (PySem.W.hasDictIn K D &&
  (He.eqO (PySem.W.findIn K (.ref D) "__class__") (some (some (.builtin "object.__class__"))) && (He.eqO (PySem.W.specialIn K (.builtin "object.__class__") "__get__") (some (some (.builtin "getset_descriptor.__get__"))) && (decide (PySem.W.takesIn K (.builtin "object.__class__") = some true) && decide (PySem.W.mroIn K D (.type "object") = some true)))))))
theorem exwB_ok {K : PySem.W.Frag} {D : Addr} (h : exwB K D = true) : ExW K D := by
  unfold exwB at h
  simp only [Bool.and_eq_true, decide_eq_true_eq] at h
  obtain ⟨h1, h2, h3, h4, h5, h6, h7, h8⟩ := h
  exact ⟨He.eqO_ok h1, He.eqO_ok h2, h3, h4, He.eqO_ok h5, He.eqO_ok h6, h7, h8⟩
/-- a class's name as a value: an own one, or a built-in type -/
def tyN (c : Str) : Option String := if c = "int" then some "int" else if c = "bool" then some "bool" else if c = "str" then some "str" else if c = "tuple" then some "tuple" else if c = "ValueError" then some "ValueError" else none
def clsV (cl : Cl) (ck : Ck) (c : Str) : Option (V × Value) := if ck.cls.contains c then some (.ref (cl c), .ref (cl c)) else (tyN c).map fun n => (.ty n, .type n)
/-- what is known of an exception's class -/
structure ExK (pg : Pg) (cl : Cl) (ck : Ck) (K : PySem.W.Frag) (k : Str) : Prop where
  ex : ExW K (cl k)
  is_ : ∀ c v u, clsV cl ck c = some (v, u) → (pg.cls.contains c = true ∨ c = "ValueError") → PySem.W.kitOne K (.ref (cl k)) u = some (pg.sub k c)
  no : ∀ f ∈ ck.flds, PySem.W.findIn K (.ref (cl k)) f = some none
/-- a context in which our syntax runs -/
structure XOk (pg : Pg) (cl : Cl) (ck : Ck) (m : Md) (k : Nat) (call : Str → List D → Sto → Res D) (sc : Sc) (W : WX) (X : Cx) : Prop where
  N : X.N = ck.N
  nd : X.N.Nodup
  scope : X.env.scope = sc.vis
  fn : ∀ x, sc.own.names.lookup x = some .cell → X.fn x = true
  takes : L2N.Takes X W
  room : RoomG (k + 3) X.A
  mode : ModeX cl m X
  cold : ck.hot = false → m = none
  free : ∀ b ∈ ck.bn, X.mg b = none
  fns : ∀ f n, ck.fn f = some n → ∃ fa fd ps, X.mg f = some (.ref fa) ∧ PySem.W.keepIn X.K (.ref fa) = true ∧ Binds X.K fd ps [] ∧ ps.length = n ∧ FnG X.prog X.w X.K X.mg X.base cl k fa fd ps (spG X.K cl pg.cls n (ck.fh.contains f) (call f))
  cpg : ∀ c, ck.cls.contains c = true → pg.cls.contains c = true
  cls : ∀ c, ck.cls.contains c = true → X.mg c = some (.ref (cl c))
  exk : ∀ a c d, m = some (a, c, d) → pg.cls.contains c = true
  exa : ∀ c, pg.cls.contains c = true → ExK pg cl ck X.K c ∧ X.mg c = some (.ref (cl c)) ∧ ∀ k, pg.cls.contains k = true → PySem.W.exmOne X.K (.ref (cl k)) (.ref (cl c)) = some (pg.sub k c)
  con : ∀ x d, pg.con x = some d → ∃ u v, X.mg x = some u ∧ RelV v u ∧ ∀ H ι, RV X.K H ι d v

/-! ### Python's syntax by its parts -/
section
def xName : Expr → Option Str
  | .Name x _ => some x
  | _ => none
def xCst : Expr → Option Const
  | .Constant c _ _ => some c
  | _ => none
def xUn : Expr → Option (UnaryOp × Expr)
  | .UnaryOp o a _ => some (o, a)
  | _ => none
def xBin : Expr → Option (Expr × Operator × Expr)
  | .BinOp a o b _ => some (a, o, b)
  | _ => none
def xCmp : Expr → Option (Expr × List CmpOp × List Expr)
  | .Compare a o b _ => some (a, o, b)
  | _ => none
def xBool : Expr → Option (BoolOp × List Expr)
  | .BoolOp o es _ => some (o, es)
  | _ => none
def xTup : Expr → Option (List Expr)
  | .Tuple es _ _ => some es
  | _ => none
def xLst : Expr → Option (List Expr)
  | .List es _ => some es
  | _ => none
def xSub : Expr → Option (Expr × Expr)
  | .Subscript a i _ => some (a, i)
  | _ => none
def xSl : Expr → Option (Option Expr × Option Expr)
  | .Slice a b none _ => some (a, b)
  | _ => none
def xCall : Expr → Option (Expr × List Expr × Pos)
  | .Call f es [] p => some (f, es, p)
  | _ => none
def xAttr : Expr → Option (Expr × Str × Pos)
  | .Attribute o f p => some (o, f, p)
  | _ => none
def xComp : Expr → Option (Expr × Expr × Expr × List Expr × Scope)
  | .ListComp e [⟨t, i, cs, 0⟩] s _ => some (e, t, i, cs, s)
  | _ => none
theorem xName_eq {e : Expr} {x : Str} (h : xName e = some x) : ∃ p, e = .Name x p := by
  cases e <;> simp [xName] at h
  subst h
  exact ⟨_, rfl⟩
theorem xCst_eq {e : Expr} {x : Const} (h : xCst e = some x) : ∃ j p, e = .Constant x j p := by
  cases e <;> simp [xCst] at h
  subst h
  exact ⟨_, _, rfl⟩
theorem xUn_eq {e a : Expr} {o : UnaryOp} (h : xUn e = some (o, a)) : ∃ p, e = .UnaryOp o a p := by
  cases e <;> simp [xUn] at h
  obtain ⟨rfl, rfl⟩ := h
  exact ⟨_, rfl⟩
theorem xBin_eq {e a b : Expr} {o : Operator} (h : xBin e = some (a, o, b)) : ∃ p, e = .BinOp a o b p := by
  cases e <;> simp [xBin] at h
  obtain ⟨rfl, rfl, rfl⟩ := h
  exact ⟨_, rfl⟩
theorem xCmp_eq {e a : Expr} {o : List CmpOp} {b : List Expr} (h : xCmp e = some (a, o, b)) : ∃ p, e = .Compare a o b p := by
  cases e <;> simp [xCmp] at h
  obtain ⟨rfl, rfl, rfl⟩ := h
  exact ⟨_, rfl⟩
theorem xBool_eq {e : Expr} {o : BoolOp} {b : List Expr} (h : xBool e = some (o, b)) : ∃ p, e = .BoolOp o b p := by
  cases e <;> simp [xBool] at h
  obtain ⟨rfl, rfl⟩ := h
  exact ⟨_, rfl⟩
theorem xTup_eq {e : Expr} {b : List Expr} (h : xTup e = some b) : ∃ j p, e = .Tuple b j p := by
  cases e <;> simp [xTup] at h
  subst h
  exact ⟨_, _, rfl⟩
theorem xLst_eq {e : Expr} {b : List Expr} (h : xLst e = some b) : ∃ p, e = .List b p := by
  cases e <;> simp [xLst] at h
  subst h
  exact ⟨_, rfl⟩
theorem xSub_eq {e a i : Expr} (h : xSub e = some (a, i)) : ∃ p, e = .Subscript a i p := by
  cases e <;> simp [xSub] at h
  obtain ⟨rfl, rfl⟩ := h
  exact ⟨_, rfl⟩
theorem xSl_eq {e : Expr} {a i : Option Expr} (h : xSl e = some (a, i)) : ∃ p, e = .Slice a i none p := by
  unfold xSl at h
  split at h
  · cases h
    exact ⟨_, rfl⟩
  · cases h
theorem xCall_eq {e f : Expr} {es : List Expr} {p : Pos} (h : xCall e = some (f, es, p)) : e = .Call f es [] p := by
  unfold xCall at h
  split at h
  · cases h
    rfl
  · cases h
theorem xAttr_eq {e o : Expr} {f : Str} {p : Pos} (h : xAttr e = some (o, f, p)) : e = .Attribute o f p := by
  cases e <;> simp [xAttr] at h
  obtain ⟨rfl, rfl, rfl⟩ := h
  rfl
theorem xComp_eq {e a t i : Expr} {cs : List Expr} {s : Scope} (h : xComp e = some (a, t, i, cs, s)) : ∃ p, e = .ListComp a [⟨t, i, cs, 0⟩] s p := by
  unfold xComp at h
  split at h
  · cases h
    exact ⟨_, rfl⟩
  · cases h
end
def isStar : Expr → Bool
  | .Starred _ _ => true
  | _ => false
theorem star_of {e : Expr} {es : List Expr} {env : Env} (h : isStar e = false) : starEach (e :: es) env = (false, eval e env) :: starEach es env := by
  cases e <;> first | rfl | cases h
def starless (es : List Expr) : Bool := es.all fun e => !isStar e
theorem starless_any {env : Env} {p : Pos} : ∀ {es : List Expr}, starless es = true → (backTo p (starEach es env)).any (·.1) = false
  | [], _ => rfl
  | e :: es, h => by
    have h1 : (!isStar e && starless es) = true := h
    obtain ⟨h2, h3⟩ := Bool.and_eq_true_iff.mp h1
    rw [star_of (by simpa using h2)]
    have := starless_any (env := env) (p := p) h3
    simpa [backTo] using this

/-! ### the checker -/
def opB : BO → Operator
  | .add => .Add | .sub => .Sub | .mul => .Mult | .mod => .Mod | .div => .FloorDiv | .pow => .Pow
def opC : CO → CmpOp
  | .eq => .Eq | .ne => .NotEq | .lt => .Lt | .le => .LtE | .gt => .Gt | .ge => .GtE | .in_ => .In | .nin => .NotIn | .is_ => .Is | .isn => .IsNot
def opEq (a b : Operator) : Bool := decide (a = b)
def cmEq (a b : CmpOp) : Bool := decide (a = b)
def visB (sc : Scope) (x : Str) : Bool := match sc.names.lookup x with
  | some .local => true
  | some .cell => true
  | some .free => true
  | _ => false
def locB (sc : Sc) (x : Str) : Bool := match sc.vis.names.lookup x with
  | some .local => true
  | some .cell => (match sc.own.names.lookup x with
    | some .cell => true
    | _ => false)
  | _ => false
def glB (sc : Scope) (x : Str) : Bool := match sc.names.lookup x with
  | some .globalImplicit => true
  | _ => false
theorem visB_ok {sc : Scope} {x : Str} (h : visB sc x = true) : Vis sc x := by
  unfold visB at h
  unfold Vis
  split at h <;> simp_all
theorem locB_ok {sc : Sc} {x : Str} (h : locB sc x = true) : L2.Loc sc.vis x ∧ (sc.own.names.lookup x = some .cell ∨ sc.vis.names.lookup x = some .local) := by
  unfold locB at h
  unfold L2.Loc
  split at h
  · rename_i q
    exact ⟨.inl q, .inr q⟩
  · rename_i q
    split at h
    · rename_i q2
      exact ⟨.inr q, .inl q2⟩
    · cases h
  · cases h
theorem glB_ok {sc : Scope} {x : Str} (h : glB sc x = true) : sc.names.lookup x = some .globalImplicit := by
  unfold glB at h
  split at h <;> simp_all
def plainName (x : Str) : Bool := !(x == ("__debug__" : Str)) && !(x == ("__classdict__" : Str)) && !(x == ("__name__" : Str))
/-- a built-in name -/
def blt (ck : Ck) (sc : Sc) (x y : Str) : Bool := decide (x = y) && ck.bn.contains x && glB sc.vis x
def litB (d : D) (c : Const) : Bool := match d, c with
  | .non, .none => true
  | .bl a, .bool b => a == b
  | .int a, .int b => decide (a = b)
  | .str a, .str b => decide (a = b)
  | _, _ => false
def bfName : BF → Str
  | .len => "len" | .abs => "abs" | .int => "int" | .tup => "tuple" | .lst => "list" | .repr => "repr" | .str => "str" | .sum => "sum" | .all => "all" | .any => "any" | .min1 => "min" | .min2 => "min" | .max2 => "max" | .sorted => "sorted"
def bfAr : BF → Nat
  | .min2 => 2 | .max2 => 2 | _ => 1
def mfName : MF → Str
  | .append => "append" | .pop0 => "pop" | .pop1 => "pop"
def mfAr : MF → Nat
  | .append => 1 | .pop0 => 0 | .pop1 => 1
/-- built-ins that a hot context may ask -/
def bfHot : BF → Bool
  | .len => true | .abs => true | .int => true | .tup => true | .lst => true | .repr => true | .str => true | _ => false
def exLen : Exs → Nat
  | .nil => 0
  | .cons _ r => exLen r + 1
def nmB (ck : Ck) (sc : Sc) (i : Nat) (e : Expr) : Bool := match xName e with
  | some x => decide (ck.N[i]? = some x) && locB sc x
  | none => false
def nmsB (ck : Ck) (sc : Sc) : List Nat → List Expr → Bool
  | [], [] => true
  | i :: is, e :: es => nmB ck sc i e && nmsB ck sc is es
  | _, _ => false
def tgB (ck : Ck) (sc : Sc) (t : Tg) (e : Expr) : Bool := match t with
  | .nm i => nmB ck sc i e
  | .tp is => !ck.hot && match xTup e with
    | some es => nmsB ck sc is es
    | none => false
def tgIx : Tg → List Nat
  | .nm i => [i]
  | .tp is => is
def isTup : Expr → Bool
  | .Tuple .. => true
  | _ => false
def ownP (N : List Str) (own : List Nat) : List (Str × Nat) := own.filterMap fun i => N[i]?.map fun x => (x, i)
def isYes : Tx → Bool
  | .yes => true
  | _ => false
def isCmp : Ex → Bool
  | .cmp .. => true
  | .chn .. => true
  | _ => false
/-- its test is its value's truth -/
def plainT : Expr → Bool
  | .UnaryOp .. => false
  | .BoolOp .. => false
  | .IfExp .. => false
  | .Compare .. => false
  | _ => true
def tyB (ck : Ck) (c : Str) : Bool := ck.bn.contains c && (decide (c = "int") || decide (c = "bool") || decide (c = "str") || decide (c = "tuple") || decide (c = "ValueError"))
def plainFld (n : Str) : Bool := !(n == ("__class__" : Str))
mutual
def ckE (ck : Ck) (sc : Sc) : Ex → Expr → Bool
  | .lit d, e => match xCst e with
    | some c => litB d c
    | none => false
  | .loc i, e => match xName e with
    | some x => decide (ck.N[i]? = some x) && visB sc.vis x && plainName x
    | none => false
  | .con y d, e => match xName e with
    | some x => decide (x = y) && glB sc.vis x && plainName x
    | none => false
  | .neg a, e => match xUn e with
    | some (.USub, x) => ckE ck sc a x
    | _ => false
  | .bin o a b, e => match xBin e with
    | some (x, p, y) => opEq p (opB o) && ckE ck sc a x && ckE ck sc b y
    | none => false
  | .cmp o a b, e => match xCmp e with
    | some (x, [p], [y]) => cmEq p (opC o) && !behindInMarks p y && ckE ck sc a x && ckE ck sc b y
    | _ => false
  | .chn o o' a b c, e => match xCmp e with
    | some (x, [p, p'], [y, z]) => cmEq p (opC o) && cmEq p' (opC o') && !lastMarks [p, p'] [y, z] && ckE ck sc a x && ckE ck sc b y && ckE ck sc c z
    | _ => false
  | .and as, e => match xBool e with
    | some (.And, es) => ckEs ck sc as es
    | _ => false
  | .or as, e => match xBool e with
    | some (.Or, es) => ckEs ck sc as es
    | _ => false
  | .not a, e => match xUn e with
    | some (.Not, x) => ckE ck sc a x
    | _ => false
  | .tup as, e => match xTup e with
    | some es => ckEs ck sc as es
    | none => false
  | .lst as, e => match xLst e with
    | some es => ckEs ck sc as es
    | none => false
  | .idx a i, e => match xSub e with
    | some (x, y) => (xSl y).isNone && (match y with
      | .Slice .. => false
      | _ => true) && ckE ck sc a x && ckE ck sc i y
    | none => false
  | .cut a lo hi, e => match xSub e with
    | some (x, y) => (match xSl y with
      | some (l, h) => ckE ck sc a x && ckP ck sc lo l && ckP ck sc hi h
      | none => false)
    | none => false
  | .call f as, e => match xCall e with
    | some (g, es, _) => (match xName g with
      | some x => decide (x = f) && (!ck.hot || ck.fh.contains f) && decide (ck.fn x = some (exLen as)) && glB sc.vis x && plainName x && decide (0 < exLen as) && starless es && ckEs ck sc as es
      | none => false)
    | none => false
  | .bif f as, e => match xCall e with
    | some (g, es, _) => (match xName g with
      | some x => blt ck sc x (bfName f) && decide (exLen as = bfAr f) && (!ck.hot || bfHot f) && starless es && ckEs ck sc as es
      | none => false)
    | none => false
  | .mth m o as, e => match xCall e with
    | some (g, es, p) => (match xAttr g with
      | some (y, n, q) => decide (n = mfName m) && decide (exLen as = mfAr m) && starless es && decide ((q.endLine == p.line) = true) && (match y with
        | .Call .. => false
        | _ => true) && ckE ck sc o y && ckEs ck sc as es
      | none => false)
    | none => false
  | .isi a cs t, e => match xCall e with
    | some (g, [y, z], _) => (match xName g with
      | some x => blt ck sc x "isinstance" && !isStar y && !isStar z && !t && (match xName z, cs with
          | some c, [c'] => decide (c = c') && glB sc.vis c && plainName c && (tyB ck c || ck.cls.contains c)
          | _, _ => false) && ckE ck sc a y
      | none => false)
    | _ => false
  | .fld a f, e => match xAttr e with
    | some (y, n, _) => decide (n = f) && ck.flds.contains f && (match y with
        | .Call .. => false
        | _ => true) && ckE ck sc a y
    | none => false
  | .comp a t it c own, e => match xComp e with
    | some (x, tg, i, cs, s) => blkC ck.N sc.vis s (ownP ck.N own) && decide ((ownP ck.N own).map (·.2) = own) && tgB ck ⟨relS s sc.vis, s⟩ t tg && (tgIx t).all (own.contains ·) && ckI ck sc (isTup tg) it i && ckE ck ⟨relS s sc.vis, s⟩ a x && (match cs with
        | [] => isYes c
        | [z] => ckT ck ⟨relS s sc.vis, s⟩ c z
        | _ => false)
    | none => false
def ckEs (ck : Ck) (sc : Sc) : Exs → List Expr → Bool
  | .nil, [] => true
  | .cons a r, e :: es => ckE ck sc a e && ckEs ck sc r es
  | _, _ => false
def ckP (ck : Ck) (sc : Sc) : Pt → Option Expr → Bool
  | .no, none => true
  | .at a, some e => ckE ck sc a e
  | _, _ => false
def ckT (ck : Ck) (sc : Sc) : Tx → Expr → Bool
  | .yes, _ => false
  | .val a, e => ckE ck sc a e && (isCmp a || plainT e)
  | .and as, e => match xBool e with
    | some (.And, es) => ckTs ck sc as es
    | _ => false
  | .or as, e => match xBool e with
    | some (.Or, es) => ckTs ck sc as es
    | _ => false
  | .not a, e => match xUn e with
    | some (.Not, x) => ckT ck sc a x
    | _ => false
def ckTs (ck : Ck) (sc : Sc) : Txs → List Expr → Bool
  | .nil, [] => true
  | .cons a r, e :: es => ckT ck sc a e && ckTs ck sc r es
  | _, _ => false
/-- tt: the target is a row of names -/
def ckI (ck : Ck) (sc : Sc) (tt : Bool) : Iw → Expr → Bool
  | .seq a, e => !ck.hot && ckE ck sc a e
  | .rng1 a, e => match xCall e with
    | some (g, [y], _) => (match xName g with
      | some x => blt ck sc x "range" && ckE ck sc a y
      | none => false)
    | _ => false
  | .rng2 a b, e => match xCall e with
    | some (g, [y, z], _) => (match xName g with
      | some x => blt ck sc x "range" && ckE ck sc a y && ckE ck sc b z
      | none => false)
    | _ => false
  | .enum a, e => match xCall e with
    | some (g, [y], _) => (match xName g with
      | some x => !ck.hot && tt && blt ck sc x "enumerate" && ckE ck sc a y
      | none => false)
    | _ => false
  | .zip a b, e => false
end
end WL
end
section
set_option Elab.async false
set_option linter.all false
set_option maxRecDepth 100000
set_option maxHeartbeats 4000000
/-! WD: operators: what the interpreter says of them, the model does. -/
namespace WL
open PySem L2
section
variable {K : PySem.W.Frag} {cl : Cl} {m : Md} {H : Hp} {ι : Pls} {S : Sto}
theorem rv_int {i : Int} {v : V} (h : RV K H ι (.int i) v) : v = .int i := by simpa [RV] using h
theorem rv_bl {i : Bool} {v : V} (h : RV K H ι (.bl i) v) : v = .bl i := by simpa [RV] using h
theorem rv_str {i : Str} {v : V} (h : RV K H ι (.str i) v) : v = .str i := by simpa [RV] using h
theorem rv_non {v : V} (h : RV K H ι .non v) : v = .non := by simpa [RV] using h
theorem rv_tup {ds : List D} {v : V} (h : RV K H ι (.tup ds) v) : ∃ a vs, v = .ref a ∧ SqT K H a vs ∧ RVs K H ι ds vs := by simpa [RV] using h
theorem rv_ref {l : Nat} {v : V} (h : RV K H ι (.ref l) v) : ∃ p : Addr × Bool, v = .ref p.1 ∧ ι[l]? = some p := by
  simp only [RV] at h
  obtain ⟨a, b, e, q⟩ := h
  exact ⟨(a, b), e, q⟩
theorem rv_tup_of {ds : List D} {a : Addr} {vs : List V} (h : SqT K H a vs) (r : RVs K H ι ds vs) : RV K H ι (.tup ds) (.ref a) := by
  simp only [RV]
  exact ⟨a, vs, rfl, h, r⟩
theorem rv_ref_of {l : Nat} {a : Addr} {b : Bool} (h : ι[l]? = some (a, b)) : RV K H ι (.ref l) (.ref a) := by
  simp only [RV]
  exact ⟨a, b, rfl, h⟩
theorem rvs_nil : RVs K H ι [] [] := by simp [RVs]
theorem rvs_cons {d : D} {ds : List D} {v : V} {vs : List V} (h : RV K H ι d v) (t : RVs K H ι ds vs) : RVs K H ι (d :: ds) (v :: vs) := by
  simp only [RVs]
  exact ⟨v, vs, rfl, h, t⟩
theorem rvs_nil' {vs : List V} (h : RVs K H ι [] vs) : vs = [] := by simpa [RVs] using h
theorem rvs_cons' {d : D} {ds : List D} {vs : List V} (h : RVs K H ι (d :: ds) vs) : ∃ v r, vs = v :: r ∧ RV K H ι d v ∧ RVs K H ι ds r := by simpa [RVs] using h
/-! ### data -/
mutual
theorem pd_ok (r : RS K cl m H ι S) : ∀ (n : Nat) (d : D) (v : V) (p : PyData), RV K H ι d v → pd S n d = some p → Dp K H v p ∧ p.canLay0 = true ∧ p.depth ≤ n
  | _, .non, v, p, h, e => by
    simp only [pd, Option.some.injEq] at e
    subst e
    rw [rv_non h]
    exact ⟨.non, rfl, Nat.zero_le _⟩
  | _, .bl b, v, p, h, e => by
    simp only [pd, Option.some.injEq] at e
    subst e
    rw [rv_bl h]
    exact ⟨.bl b, rfl, Nat.zero_le _⟩
  | _, .int b, v, p, h, e => by
    simp only [pd, Option.some.injEq] at e
    subst e
    rw [rv_int h]
    exact ⟨.int b, rfl, Nat.zero_le _⟩
  | _, .str b, v, p, h, e => by
    simp only [pd] at e
    split at e
    · rename_i ho
      cases e
      rw [rv_str h]
      exact ⟨.str b, by simpa [PyData.canLay0] using ho, Nat.zero_le _⟩
    · cases e
  | 0, .tup ds, v, p, h, e => by simp [pd] at e
  | 0, .ref l, v, p, h, e => by simp [pd] at e
  | n + 1, .tup ds, v, p, h, e => by
    simp only [pd] at e
    obtain ⟨a, vs, rfl, hq, hr⟩ := rv_tup h
    cases q : pds S n ds with
    | none => rw [q] at e; cases e
    | some ps =>
      rw [q] at e
      cases e
      obtain ⟨h1, h2, h3⟩ := pds_ok r n ds vs ps hr q
      exact ⟨.tup hq h1, by simpa [PyData.canLay0] using h2, by simp only [PyData.depth]; omega⟩
  | n + 1, .ref l, v, p, h, e => by
    simp only [pd] at e
    obtain ⟨a, rfl, ha⟩ := rv_ref h
    cases hs : S[l]? with
    | none => rw [hs] at e; cases e
    | some o =>
      rw [hs] at e
      have ho := (r.at_ l a o ha hs).2
      cases o with
      | lst ds =>
        obtain ⟨vs, hv, hr⟩ := ho
        simp only at e
        cases q : pds S n ds with
        | none => rw [q] at e; cases e
        | some ps =>
          rw [q] at e
          cases e
          obtain ⟨h1, h2, h3⟩ := pds_ok r n ds vs ps hr q
          exact ⟨.lst (SqL.of hv) h1, by simpa [PyData.canLay0] using h2, by simp only [PyData.depth]; omega⟩
      | rls ds =>
        obtain ⟨vs, hv, hr⟩ := ho
        simp only at e
        cases q : pds S n ds with
        | none => rw [q] at e; cases e
        | some ps =>
          rw [q] at e
          cases e
          obtain ⟨h1, h2, h3⟩ := pds_ok r n ds vs ps hr q
          exact ⟨.lst hv.seq h1, by simpa [PyData.canLay0] using h2, by simp only [PyData.depth]; omega⟩
      | ins c fs => cases e
      | exc c fs => cases e
theorem pds_ok (r : RS K cl m H ι S) : ∀ (n : Nat) (ds : List D) (vs : List V) (ps : List PyData), RVs K H ι ds vs → pds S n ds = some ps → DpAll K H vs ps ∧ PyData.canLayAll0 ps = true ∧ PyData.depthAll ps ≤ n
  | n, [], vs, ps, h, e => by
    simp only [pds, Option.some.injEq] at e
    subst e
    rw [rvs_nil' h]
    exact ⟨.nil, rfl, Nat.zero_le _⟩
  | n, d :: ds, vs, ps, h, e => by
    obtain ⟨v, us, rfl, h1, h2⟩ := rvs_cons' h
    simp only [pds] at e
    cases q : pd S n d with
    | none => rw [q] at e; cases e
    | some p =>
      cases q2 : pds S n ds with
      | none => rw [q, q2] at e; cases e
      | some ps2 =>
        rw [q, q2] at e
        cases e
        obtain ⟨a1, a2, a3⟩ := pd_ok r n d v p h1 q
        obtain ⟨b1, b2, b3⟩ := pds_ok r n ds us ps2 h2 q2
        exact ⟨.cons a1 b1, by simp only [PyData.canLayAll0, a2, b2, Bool.and_self], by simp only [PyData.depthAll]; omega⟩
end
theorem shaped_of {p : PyData} (h1 : p.canLay0 = true) (h2 : p.depth ≤ 60) : SeqAt.shaped p = true := by
  unfold SeqAt.shaped
  rw [h1, Bool.true_and]
  exact decide_eq_true (by omega)
end
/-! ### two values in, one out -/
section
variable {X : Cx} {cl : Cl} {m : Md}
/-- the reading of a primitive of two values by the interpreter's function f -/
def rD (K : PySem.W.Frag) (cl : Cl) (m : Md) (W : WX) (f : D → D → Sto → Res D) : R2 := fun x y H Q => ∃ d e S ι σ, RS K cl m H ι S ∧ RV K H ι d x ∧ RV K H ι e y ∧ PstE K cl m W σ ι H (f d e S) Q
/-- an answer without a new thing -/
theorem Pst.here {α β : Type} {K : PySem.W.Frag} {W : WX} {R : Hp → Pls → α → β → Prop} {σ : St} {ι : Pls} {H : Hp} {d : α} {S : Sto} {Q : β → Hp → Prop} {v : β} (h : Pst K cl m W R σ ι H (.ok d S) Q) (r : RS K cl m H ι S) (q : R H ι d v) : Q v H := h v H ι (Step.refl _ _) r q
theorem Pst.tupN {K : PySem.W.Frag} {W : WX} {σ : St} {ι : Pls} {H : Hp} {ds : List D} {S : Sto} {Q : VK} {vs : List V} (h : PstE K cl m W σ ι H (.ok (.tup ds) S) Q) (r : RS K cl m H ι S) (q : RVs K H ι ds vs) {p : Addr} (np : H p = none) : Q (.ref p) (upd H p (.tup vs)) :=
  h _ _ ι (Step.fresh np) (r.fresh np) (rv_tup_of (SqT.of upd_same) (RVs.step (Step.fresh np) _ _ q))
theorem Pst.lstN {K : PySem.W.Frag} {W : WX} {σ : St} {ι : Pls} {H : Hp} {ds : List D} {S : Sto} {Q : VK} {vs : List V} (h : PstE K cl m W σ ι H (.ok (.ref S.length) (S ++ [.lst ds])) Q) (r : RS K cl m H ι S) (q : RVs K H ι ds vs) {p : Addr} (np : H p = none) : Q (.ref p) (upd H p (.lst vs)) :=
  h _ _ (ι ++ [(p, true)]) (Step.alloc np) (r.alloc (o := .lst ds) np ⟨vs, upd_same, RVs.step (Step.alloc np) _ _ q⟩) (rv_ref_of (b := true) (by rw [← r.len]; simp))
theorem Pst.ite {α β : Type} {K : PySem.W.Frag} {W : WX} {R : Hp → Pls → α → β → Prop} {σ : St} {ι : Pls} {H : Hp} {c : Prop} [Decidable c] {r : Res α} {Q : β → Hp → Prop} (h : Pst K cl m W R σ ι H (if c then r else .bad) Q) : c ∧ Pst K cl m W R σ ι H r Q := by
  split at h
  · exact ⟨‹c›, h⟩
  · exact h.elim
theorem lst_at {K : PySem.W.Frag} {H : Hp} {ι : Pls} {S : Sto} (r : RS K cl m H ι S) {l : Nat} {v : V} {ds : List D} (hv : RV K H ι (.ref l) v) (hs : S[l]? = some (.lst ds)) : ∃ a vs, v = .ref a ∧ ι[l]? = some (a, true) ∧ H a = some (.lst vs) ∧ RVs K H ι ds vs := by
  obtain ⟨⟨a, b⟩, rfl, ha⟩ := rv_ref hv
  obtain ⟨hb, vs, h1, h2⟩ := r.lst ha hs
  simp only at hb
  subst hb
  exact ⟨a, vs, rfl, ha, h1, h2⟩
theorem snd_bin {W : WX} (o : BO) : OpR X (binaryOp (opB o)) (rD X.K cl m W (binD o)) := by
  intro pins s σ H x y v u Q I rx ry h
  obtain ⟨d, e, S, ι, σ', hS, hd, he, hp⟩ := h
  cases o with
  | add =>
    cases d with
    | int i =>
      cases e with
      | int j =>
        have h1 := rv_int hd
        have h2 := rv_int he
        exact op_add pins s σ H x y v u Q I rx ry ⟨i, j, h1, h2, Pst.here hp hS (by simp [RV])⟩
      | _ => exact hp.elim
    | tup a =>
      cases e with
      | tup b =>
        obtain ⟨hz, hp⟩ := Pst.ite hp
        obtain ⟨p, vs, rfl, hq, hr⟩ := rv_tup hd
        obtain ⟨q, us, rfl, hq2, hr2⟩ := rv_tup he
        have l1 := RVs.length hr
        have l2 := RVs.length hr2
        refine op_catA pins s σ H _ _ v u Q I rx ry ⟨p, q, vs, us, rfl, rfl, hq, hq2, by omega, fun z => ?_, fun z1 z2 => ?_, fun _ _ t np => Pst.tupN hp hS (RVs.append hr hr2) np⟩
        · subst z
          have : a = [] := List.eq_nil_of_length_eq_zero (by simpa using l1)
          subst this
          exact Pst.here hp hS (rv_tup_of hq2 (by simpa using hr2))
        · subst z2
          have : b = [] := List.eq_nil_of_length_eq_zero (by simpa using l2)
          subst this
          exact Pst.here hp hS (rv_tup_of hq (by simpa using hr))
      | _ => exact hp.elim
    | ref l =>
      cases e with
      | ref n =>
        simp only [binD] at hp
        split at hp
        · rename_i a b ha hb
          obtain ⟨hz, hp⟩ := Pst.ite hp
          obtain ⟨p, vs, rfl, _, h1, h2⟩ := lst_at hS hd ha
          obtain ⟨q, us, rfl, _, h3, h4⟩ := lst_at hS he hb
          have l1 := RVs.length h2
          have l2 := RVs.length h4
          exact op_cat pins s σ H _ _ v u Q I rx ry ⟨p, q, vs, us, rfl, rfl, h1, h3, by omega, fun t np => Pst.lstN hp hS (RVs.append h2 h4) np⟩
        · exact hp.elim
      | _ => exact hp.elim
    | _ => exact hp.elim
  | sub =>
    cases d with
    | int i =>
      cases e with
      | int j => exact op_sub pins s σ H x y v u Q I rx ry ⟨i, j, rv_int hd, rv_int he, Pst.here hp hS (by simp [RV])⟩
      | _ => exact hp.elim
    | _ => exact hp.elim
  | mul =>
    cases d with
    | int i =>
      cases e with
      | int j =>
        obtain ⟨hc, hp⟩ := Pst.ite hp
        exact op_mul pins s σ H x y v u Q I rx ry ⟨i, j, rv_int hd, rv_int he, hc, Pst.here hp hS (by simp [RV])⟩
      | _ => exact hp.elim
    | ref l =>
      cases e with
      | int k =>
        simp only [binD] at hp
        split at hp
        · rename_i a ha
          obtain ⟨⟨k1, k2, k3⟩, hp⟩ := Pst.ite hp
          obtain ⟨p, vs, rfl, _, h1, h2⟩ := lst_at hS hd ha
          have l1 := RVs.length h2
          exact op_rep pins s σ H _ _ v u Q I rx ry ⟨p, k, vs, rfl, rv_int he, h1, k1, k2, by rw [← l1]; exact k3, fun t np => Pst.lstN hp hS (RVs.rep h2 _) np⟩
        · exact hp.elim
      | _ => exact hp.elim
    | _ => exact hp.elim
  | mod =>
    cases d with
    | int i =>
      cases e with
      | int j =>
        obtain ⟨hc, hp⟩ := Pst.ite hp
        exact op_mod pins s σ H x y v u Q I rx ry ⟨i, j, rv_int hd, rv_int he, hc, Pst.here hp hS (by simp [RV])⟩
      | _ => exact hp.elim
    | _ => exact hp.elim
  | div =>
    cases d with
    | int i =>
      cases e with
      | int j =>
        obtain ⟨⟨hc, hc2⟩, hp⟩ := Pst.ite hp
        exact op_fdivW pins s σ H x y v u Q I rx ry ⟨i, j, rv_int hd, rv_int he, wide_div (b := 64) hc (by omega) (by decide) (by decide), Pst.here hp hS (by simp [RV])⟩
      | _ => exact hp.elim
    | _ => exact hp.elim
  | pow =>
    cases d with
    | int i =>
      cases e with
      | int j =>
        obtain ⟨⟨h1, h2, h3⟩, hp⟩ := Pst.ite hp
        exact op_pow pins s σ H x y v u Q I rx ry ⟨i, j, rv_int hd, rv_int he, ⟨h1, h2, h3⟩, Pst.here hp hS (by simp [RV])⟩
      | _ => exact hp.elim
    | _ => exact hp.elim
/-- a comparison -/
noncomputable def cmpR (o : CO) : D → D → Sto → Res D := fun x y S => (Res.of (cmpD o x y S) S).bind fun k S => .ok (.bl k) S
theorem eqD_ok {K : PySem.W.Frag} {H : Hp} {ι : Pls} {S : Sto} (r : RS K cl m H ι S) {x y : D} {v u : V} {k : Bool} (hx : RV K H ι x v) (hy : RV K H ι y u) (e : eqP S x y = some k) :
    ∃ a b, Dp K H v a ∧ Dp K H u b ∧ SeqAt.shaped a = true ∧ SeqAt.shaped b = true ∧ k = PyData.eqv a b := by
  unfold eqP at e
  cases q : pd S 60 x with
  | none => rw [q] at e; cases e
  | some a =>
    cases q2 : pd S 60 y with
    | none => rw [q, q2] at e; cases e
    | some b =>
      rw [q, q2] at e
      cases e
      obtain ⟨a1, a2, a3⟩ := pd_ok r 60 x v a hx q
      obtain ⟨b1, b2, b3⟩ := pd_ok r 60 y u b hy q2
      exact ⟨a, b, a1, b1, shaped_of a2 a3, shaped_of b2 b3, rfl⟩
theorem flat_rv {K : PySem.W.Frag} {H : Hp} {ι : Pls} {d : D} {v : V} (h : RV K H ι d v) (f : isFlat d = true) : flatV v = true := by
  cases d with
  | non => rw [rv_non h]; rfl
  | bl b => rw [rv_bl h]; rfl
  | int i => rw [rv_int h]; rfl
  | str s => rw [rv_str h]; rfl
  | _ => cases f
theorem flats_rv {K : PySem.W.Frag} {H : Hp} {ι : Pls} : ∀ {ds : List D} {vs : List V}, RVs K H ι ds vs → ds.all isFlat = true → vs.all flatV = true
  | [], vs, h, _ => by rw [rvs_nil' h]; rfl
  | d :: ds, vs, h, f => by
    obtain ⟨v, us, rfl, h1, h2⟩ := rvs_cons' h
    simp only [List.all_cons, Bool.and_eq_true] at f ⊢
    exact ⟨flat_rv h1 f.1, flats_rv h2 f.2⟩
theorem flEq_rv {K : PySem.W.Frag} {H : Hp} {ι : Pls} {d x : D} {v u : V} (h : RV K H ι d v) (h2 : RV K H ι x u) (f : isFlat d = true) (f2 : isFlat x = true) : eqV v u = flEq d x := by
  cases d <;> first | cases f | skip
  all_goals cases x <;> first | cases f2 | skip
  all_goals simp only [RV] at h h2
  all_goals rw [h, h2]
  all_goals rfl
theorem any_rv {K : PySem.W.Frag} {H : Hp} {ι : Pls} {x : D} {u : V} (h2 : RV K H ι x u) (f2 : isFlat x = true) : ∀ {ds : List D} {vs : List V}, RVs K H ι ds vs → ds.all isFlat = true → (vs.any fun y => eqV y u) = ds.any fun d => flEq d x
  | [], vs, h, _ => by rw [rvs_nil' h]; rfl
  | d :: ds, vs, h, f => by
    obtain ⟨v, us, rfl, h1, h3⟩ := rvs_cons' h
    simp only [List.all_cons, Bool.and_eq_true] at f
    simp only [List.any_cons]
    rw [flEq_rv h1 h2 f.1 f2, any_rv h2 f2 h3 f.2]
theorem items_rv {K : PySem.W.Frag} {H : Hp} {ι : Pls} {S : Sto} (r : RS K cl m H ι S) {y : D} {u : V} {ds : List D} (hy : RV K H ι y u) (e : itemsOf S y = some ds) : ∃ p vs, u = .ref p ∧ (SqL K H p vs ∨ SqT K H p vs) ∧ RVs K H ι ds vs := by
  cases y with
  | tup xs =>
    simp only [itemsOf, Option.some.injEq] at e
    subst e
    obtain ⟨a, vs, rfl, h1, h2⟩ := rv_tup hy
    exact ⟨a, vs, rfl, .inr h1, h2⟩
  | ref l =>
    simp only [itemsOf] at e
    obtain ⟨a, rfl, ha⟩ := rv_ref hy
    cases hs : S[l]? with
    | none => rw [hs] at e; cases e
    | some o =>
      rw [hs] at e
      have ho := (r.at_ l a o ha hs).2
      cases o with
      | lst xs =>
        cases e
        obtain ⟨vs, h1, h2⟩ := ho
        exact ⟨a.1, vs, rfl, .inl (SqL.of h1), h2⟩
      | rls xs =>
        cases e
        obtain ⟨vs, h1, h2⟩ := ho
        exact ⟨a.1, vs, rfl, .inl h1.seq, h2⟩
      | _ => cases e
  | _ => cases e
theorem mem_rv {K : PySem.W.Frag} {H : Hp} {ι : Pls} {S : Sto} (r : RS K cl m H ι S) {x y : D} {v u : V} {k : Bool} (hx : RV K H ι x v) (hy : RV K H ι y u) (e : (itemsOf S y).bind (memD x) = some k) :
    ∃ p vs, u = .ref p ∧ (SqL K H p vs ∨ SqT K H p vs) ∧ flatV v = true ∧ vs.all flatV = true ∧ inV v vs = k := by
  cases q : itemsOf S y with
  | none => rw [q] at e; cases e
  | some ds =>
    rw [q] at e
    obtain ⟨p, vs, h1, h2, h3⟩ := items_rv r hy q
    have e2 : memD x ds = some k := e
    unfold memD at e2
    split at e2
    · rename_i hf
      obtain ⟨f1, f2⟩ := Bool.and_eq_true_iff.mp hf
      cases e2
      exact ⟨p, vs, h1, h2, flat_rv hx f1, flats_rv h3 f2, any_rv hx f1 h3 f2⟩
    · cases e2
theorem snd_cmp {W : WX} (o : CO) (hu : X.A.units + 64 < cLine) : OpR X (compareOp (opC o)) (rD X.K cl m W (cmpR o)) := by
  intro pins s σ H x y v u Q I rx ry h
  obtain ⟨d, e, S, ι, σ', hS, hd, he, hp⟩ := h
  obtain ⟨k, hk, hp⟩ := Pst.bind_of hp
  have fin : ∀ {b : Bool}, b = k → Q (.bl b) H := fun {b} z => by
    subst z
    exact Pst.here hp hS (by simp [RV])
  cases o with
  | eq =>
    simp only [cmpD, eqD] at hk
    split at hk
    · cases hk
      have h1 := rv_str hd
      have h2 := rv_str he
      subst h1 h2
      exact op_eq pins s σ H _ _ v u Q I rx ry ⟨rfl, fin (by simp)⟩
    · obtain ⟨a, b, h1, h2, h3, h4, h5⟩ := eqD_ok hS hd he hk
      exact op_eqD hu pins s σ H x y v u Q I rx ry ⟨a, b, h1, h2, h3, h4, fin h5.symm⟩
  | ne =>
    simp only [cmpD, Option.map_eq_some_iff] at hk
    obtain ⟨k', hk, rfl⟩ := hk
    simp only [eqD] at hk
    split at hk
    · cases hk
      have h1 := rv_str hd
      have h2 := rv_str he
      subst h1 h2
      exact op_ne pins s σ H _ _ v u Q I rx ry ⟨rfl, fin (by simp)⟩
    · obtain ⟨a, b, h1, h2, h3, h4, h5⟩ := eqD_ok hS hd he hk
      exact op_neD hu pins s σ H x y v u Q I rx ry ⟨a, b, h1, h2, h3, h4, fin (by rw [h5])⟩
  | lt =>
    simp only [cmpD] at hk
    split at hk
    · cases hk
      exact op_lt pins s σ H x y v u Q I rx ry ⟨_, _, rv_int hd, rv_int he, fin rfl⟩
    · cases hk
  | le =>
    simp only [cmpD] at hk
    split at hk
    · cases hk
      exact op_le pins s σ H x y v u Q I rx ry ⟨_, _, rv_int hd, rv_int he, fin rfl⟩
    · cases hk
  | gt =>
    simp only [cmpD] at hk
    split at hk
    · cases hk
      exact op_gt pins s σ H x y v u Q I rx ry ⟨_, _, rv_int hd, rv_int he, fin rfl⟩
    · cases hk
  | ge =>
    simp only [cmpD] at hk
    split at hk
    · cases hk
      exact op_ge pins s σ H x y v u Q I rx ry ⟨_, _, rv_int hd, rv_int he, fin rfl⟩
    · cases hk
  | in_ =>
    obtain ⟨p, vs, h1, h2, h3, h4, h5⟩ := mem_rv hS hd he hk
    exact op_in_seq pins s σ H x y v u Q I rx ry ⟨p, vs, h1, h2, h3, h4, fin (by simpa using h5)⟩
  | nin =>
    simp only [cmpD, Option.map_eq_some_iff] at hk
    obtain ⟨k', hk, rfl⟩ := hk
    obtain ⟨p, vs, h1, h2, h3, h4, h5⟩ := mem_rv hS hd he hk
    exact op_notIn_seq pins s σ H x y v u Q I rx ry ⟨p, vs, h1, h2, h3, h4, fin (by rw [if_pos rfl, h5])⟩
  | is_ =>
    simp only [cmpD] at hk
    split at hk
    · have hy := rv_non he
      refine op_isN pins s σ H x y v u Q I rx ry ⟨hy, fin ?_⟩
      cases hk
      cases d with
      | non => rw [rv_non hd]; rfl
      | bl b => rw [rv_bl hd]; rfl
      | int b => rw [rv_int hd]; rfl
      | str b => rw [rv_str hd]; rfl
      | tup b => obtain ⟨a, _, rfl, _⟩ := rv_tup hd; rfl
      | ref b => obtain ⟨a, rfl, _⟩ := rv_ref hd; rfl
    · split at hk
      · cases hk
        exact op_is_bl pins s σ H x y v u Q I rx ry ⟨_, _, rv_bl hd, rv_bl he, fin rfl⟩
      · cases hk
    · cases hk
  | isn =>
    simp only [cmpD] at hk
    split at hk
    · have hy := rv_non he
      refine op_notN pins s σ H x y v u Q I rx ry ⟨hy, fin ?_⟩
      cases hk
      cases d with
      | non => rw [rv_non hd]; rfl
      | bl b => rw [rv_bl hd]; rfl
      | int b => rw [rv_int hd]; rfl
      | str b => rw [rv_str hd]; rfl
      | tup b => obtain ⟨a, _, rfl, _⟩ := rv_tup hd; rfl
      | ref b => obtain ⟨a, rfl, _⟩ := rv_ref hd; rfl
    · cases hk
end
end WL
end
section
set_option Elab.async false
set_option linter.all false
set_option maxRecDepth 100000
set_option maxHeartbeats 4000000
/-! WE: subscripts, slices, built-in functions and methods. -/
namespace WL
open PySem L2
section
variable {X : Cx} {cl : Cl} {m : Md}
theorem RVs.atI {K : PySem.W.Frag} {H : Hp} {ι : Pls} {ds : List D} {vs : List V} {i : Int} {d : D} (h : RVs K H ι ds vs) (e : L2.atI ds i = some d) : ∃ v, L2.atI vs i = some v ∧ RV K H ι d v := by
  unfold L2.atI at e ⊢
  rw [← RVs.length h]
  cases q : ixN ds.length i with
  | none => rw [q] at e; cases e
  | some j =>
    rw [q] at e
    exact RVs.get h e
noncomputable def idxR : D → D → Sto → Res D := fun x y S => Res.of (idxD S x y) S
theorem snd_idx {W : WX} : IxR X (rD X.K cl m W idxR) := by
  intro value slice pins s σ H x y v u Q I rx ry h hs
  obtain ⟨d, e, S, ι, σ', hS, hd, he, hp⟩ := h
  obtain ⟨r, hr, hp⟩ := Pst.of hp
  have fin : ∀ {w : V}, RV X.K H ι r w → Q w H := fun q => Pst.here hp hS q
  cases d with
  | tup ds =>
    cases e with
    | int i =>
      obtain ⟨a, vs, rfl, h1, h2⟩ := rv_tup hd
      obtain ⟨w, h3, h4⟩ := RVs.atI h2 hr
      exact ix_tup value slice pins s σ H _ y v u Q I rx ry ⟨a, vs, i, w, rfl, rv_int he, h1, h3, fin h4⟩ hs
    | _ => cases hr
  | ref l =>
    cases e with
    | int i =>
      simp only [idxD] at hr
      obtain ⟨a, rfl, ha⟩ := rv_ref hd
      cases hs' : S[l]? with
      | none => rw [hs'] at hr; cases hr
      | some o =>
        rw [hs'] at hr
        have ho := (hS.at_ l a o ha hs').2
        cases o with
        | lst ds =>
          obtain ⟨vs, h1, h2⟩ := ho
          obtain ⟨w, h3, h4⟩ := RVs.atI h2 hr
          exact ix_list value slice pins s σ H _ y v u Q I rx ry ⟨a.1, vs, i, w, rfl, rv_int he, SqL.of h1, h3, fin h4⟩ hs
        | rls ds =>
          obtain ⟨vs, h1, h2⟩ := ho
          obtain ⟨w, h3, h4⟩ := RVs.atI h2 hr
          exact ix_list value slice pins s σ H _ y v u Q I rx ry ⟨a.1, vs, i, w, rfl, rv_int he, h1.seq, h3, fin h4⟩ hs
        | _ => cases hr
    | _ => cases hr
  | str z =>
    cases e with
    | int i =>
      simp only [idxD] at hr
      split at hr
      · rename_i hz
        obtain ⟨c, hc, rfl⟩ := Option.map_eq_some_iff.mp hr
        exact ix_str value slice pins s σ H x y v u Q I rx ry ⟨z, i, c, rv_str hd, rv_int he, hz, hc, fin (by simp [RV])⟩ hs
      · cases hr
    | _ => cases hr
  | _ => cases hr
theorem cut_rv {K : PySem.W.Frag} {H : Hp} {ι : Pls} {ds : List D} {vs : List V} (h : RVs K H ι ds vs) (lo hi : Option Int) : RVs K H ι (cutL ds lo hi) (cutV vs lo hi) := by
  unfold cutL cutV
  rw [← RVs.length h]
  exact RVs.take _ (RVs.drop _ h)
theorem cut_all {K : PySem.W.Frag} {H : Hp} {ι : Pls} {ds : List D} {vs : List V} (h : RVs K H ι ds vs) {lo hi : Option Int} (hw : HT.sIx vs.length 0 lo = 0 ∧ HT.sIx vs.length vs.length hi = vs.length) : cutL ds lo hi = ds := by
  unfold cutL
  rw [RVs.length h, hw.1, hw.2, ← RVs.length h]
  simp
def rSl (K : PySem.W.Frag) (cl : Cl) (m : Md) (W : WX) : V → Option Int → Option Int → Hp → VK → Prop := fun x lo hi H Q => ∃ d S ι σ, RS K cl m H ι S ∧ RV K H ι d x ∧ PstE K cl m W σ ι H (cutD S d lo hi) Q
theorem snd_cut {W : WX} : SlR X (rSl X.K cl m W) := by
  refine SlR.or (X := X) (sl_tupA) sl_list |> fun h => ?_
  intro pins s σ H x v vl vu lo hi sl Q I rx hs pl pu q
  refine h pins s σ H x v vl vu lo hi sl Q I rx hs pl pu ?_
  obtain ⟨d, S, ι, σ', hS, hd, hp⟩ := q
  cases d with
  | tup ds =>
    obtain ⟨a, vs, rfl, h1, h2⟩ := rv_tup hd
    refine .inl ⟨a, vs, rfl, h1, fun hw => ?_, fun hw p np => Pst.tupN hp hS (cut_rv h2 lo hi) np⟩
    refine Pst.here hp hS (rv_tup_of h1 ?_)
    rw [cut_all h2 hw]
    exact h2
  | ref l =>
    simp only [cutD] at hp
    obtain ⟨a, rfl, ha⟩ := rv_ref hd
    cases hs' : S[l]? with
    | none => rw [hs'] at hp; exact hp.elim
    | some o =>
      rw [hs'] at hp
      have ho := (hS.at_ l a o ha hs').2
      cases o with
      | lst ds =>
        obtain ⟨vs, h1, h2⟩ := ho
        exact .inr ⟨a.1, vs, rfl, SqL.of h1, fun p np => Pst.lstN hp hS (cut_rv h2 lo hi) np⟩
      | rls ds =>
        obtain ⟨vs, h1, h2⟩ := ho
        exact .inr ⟨a.1, vs, rfl, h1.seq, fun p np => Pst.lstN hp hS (cut_rv h2 lo hi) np⟩
      | _ => exact hp.elim
  | _ => exact hp.elim
/-! ### built-in functions -/
def rF (K : PySem.W.Frag) (cl : Cl) (m : Md) (W : WX) (f : List D → Sto → Res D) : List V → Hp → VK → Prop := fun xs H Q => ∃ ds S ι σ, RS K cl m H ι S ∧ RVs K H ι ds xs ∧ PstE K cl m W σ ι H (f ds S) Q
theorem CallR.imp {f : Value} {r r' : List V → Hp → VK → Prop} (h : CallR X f r) (k : ∀ xs H Q, r' xs H Q → r xs H Q) : CallR X f r' := fun pins s σ H xs us Q I rs q => h pins s σ H xs us Q I rs (k xs H Q q)
theorem one_rv {K : PySem.W.Frag} {H : Hp} {ι : Pls} {d : D} {vs : List V} (h : RVs K H ι [d] vs) : ∃ v, vs = [v] ∧ RV K H ι d v := by
  obtain ⟨v, r, rfl, h1, h2⟩ := rvs_cons' h
  rw [rvs_nil' h2]
  exact ⟨v, rfl, h1⟩
theorem two_rv {K : PySem.W.Frag} {H : Hp} {ι : Pls} {d e : D} {vs : List V} (h : RVs K H ι [d, e] vs) : ∃ v u, vs = [v, u] ∧ RV K H ι d v ∧ RV K H ι e u := by
  obtain ⟨v, r, rfl, h1, h2⟩ := rvs_cons' h
  obtain ⟨u, rfl, h3⟩ := one_rv h2
  exact ⟨v, u, rfl, h1, h3⟩
/-- the rule for repr of data -/
theorem call_reprD (hg : X.A.guards = some []) (hu : X.A.units + 64 < cLine) : CallR X (.builtin "repr") (fun xs H Q => ∃ x p, xs = [x] ∧ Dp X.K H x p ∧ p.canLay0 = true ∧ p.depth ≤ 60 ∧ p.showable = true ∧ p.shown.length ≤ sizeLine ∧ Q (.str p.shown) H) := by
  intro pins s σ H xs us Q I r h
  obtain ⟨x, p, rfl, hd, hl, hdp, hs, hz, q⟩ := h
  obtain ⟨u, rfl, rx⟩ := vals1 r
  obtain ⟨as, rd⟩ := Dp.reads I p x u hd rx
  have nd := PyData.noDict_hsm (as := as) (PyData.hasDict_of_canLay p hl)
  have fin : ∀ (h' : Heap) (tk : Nat) (t : Tok), (∀ b o, s.heap.get? b = some o → h'.get? b = some o) → EP X pins σ Q (.str p.shown t) { s with heap := h', toks := tk } := fun h' tk t k => ⟨.str p.shown, H, I.kept k, ⟨t, rfl⟩, q⟩
  cases rd with
  | none => exact PySem.P.repr_of_none ⟨.str _, H, I.tok _, ⟨_, rfl⟩, by simpa [PyData.shown] using q⟩
  | bool b => exact PySem.P.repr_of_bool ⟨.str _, H, I.tok _, ⟨_, rfl⟩, by simpa [PyData.shown] using q⟩
  | int i t => exact PySem.P.repr_of_int (by simpa [PyData.showable] using hs) ⟨.str _, H, I.tok _, ⟨_, rfl⟩, by simpa [PyData.shown] using q⟩
  | str z t => exact PySem.P.repr_of_str ⟨.str _, H, I.tok _, ⟨_, rfl⟩, by simpa [PyData.shown] using q⟩ (by simpa [PyData.shown] using hz)
  | list h1 h2 h3 h4 => exact repr_of_reads' (.list h1 h2 h3 h4) hs nd hg (by omega) (fun _ _ e => e) (fun h' u tk k => fin h' tk u k) hz
  | tuple h1 h2 h3 h4 => exact repr_of_reads' (.tuple h1 h2 h3 h4) hs nd hg (by omega) (fun _ _ e => e) (fun h' u tk k => fin h' tk u k) hz
  | dict h1 h2 h3 h4 h5 => cases hd
/-- which object a built-in's name stands for -/
def bfVal : BF → Value
  | .len => .builtin "len" | .abs => .builtin "abs" | .int => .type "int" | .tup => .type "tuple" | .lst => .type "list" | .repr => .builtin "repr" | .str => .type "str" | .sum => .builtin "sum" | .all => .builtin "all" | .any => .builtin "any" | .min1 => .builtin "min" | .min2 => .builtin "min" | .max2 => .builtin "max" | .sorted => .builtin "sorted"
theorem CallR.never {f : Value} : CallR X f (fun _ _ _ => False) := fun _ _ _ _ _ _ _ _ _ q => q.elim
theorem ints_rv {K : PySem.W.Frag} {H : Hp} {ι : Pls} : ∀ {ds : List D} {vs : List V} {ns : List Int}, RVs K H ι ds vs → intsOf ds = some ns → vs = ns.map V.int
  | [], vs, ns, h, e => by
    simp only [intsOf, Option.some.injEq] at e
    subst e
    rw [rvs_nil' h]
    rfl
  | d :: ds, vs, ns, h, e => by
    obtain ⟨v, us, rfl, h1, h2⟩ := rvs_cons' h
    cases d <;> simp [intsOf] at e
    obtain ⟨ms, e1, rfl⟩ := e
    rw [rv_int h1, ints_rv h2 e1]
    rfl
theorem bls_rv {K : PySem.W.Frag} {H : Hp} {ι : Pls} : ∀ {ds : List D} {vs : List V} {ns : List Bool}, RVs K H ι ds vs → blsOf ds = some ns → vs = ns.map V.bl
  | [], vs, ns, h, e => by
    simp only [blsOf, Option.some.injEq] at e
    subst e
    rw [rvs_nil' h]
    rfl
  | d :: ds, vs, ns, h, e => by
    obtain ⟨v, us, rfl, h1, h2⟩ := rvs_cons' h
    cases d <;> simp [blsOf] at e
    obtain ⟨ms, e1, rfl⟩ := e
    rw [rv_bl h1, bls_rv h2 e1]
    rfl
theorem lstOf_rv {K : PySem.W.Frag} {H : Hp} {ι : Pls} {S : Sto} (r : RS K cl m H ι S) {x : D} {v : V} {ds : List D} (hv : RV K H ι x v) (e : lstOf S x = some ds) : ∃ a vs, v = .ref a ∧ H a = some (.lst vs) ∧ RVs K H ι ds vs := by
  cases x with
  | ref l =>
    simp only [lstOf] at e
    split at e
    · rename_i es he
      cases e
      obtain ⟨a, vs, h1, _, h2, h3⟩ := lst_at r hv he
      exact ⟨a, vs, h1, h2, h3⟩
    · cases e
  | _ => cases e
end
end WL
end
section
set_option Elab.async false
set_option linter.all false
set_option maxRecDepth 100000
set_option maxHeartbeats 4000000
/-! WX: sorted of pairs with ints ahead, all different. -/
namespace WL
open PySem PyProof.Rows Srt SrtO
/-- a pair with an int ahead -/
def IsKey (h : Heap) (v : Value) (k : Int) : Prop := ∃ a o t z n, v = .ref a ∧ h.get? a = some o ∧ o.cls = .type "tuple" ∧ o.data = .seq #[.int k t, z] n
section
variable {prog : Program} {w : World} {A : Around} {E : Value → Shared → Prop} {s : Shared}
theorem IsKey.keeps {h h' : Heap} {v : Value} {x : Int} (p : IsKey h v x) (k : ∀ b o, h.get? b = some o → o.cls = .type "tuple" → h'.get? b = some o) : IsKey h' v x := by
  obtain ⟨a, o, t, z, n, e, ho, hc, hd⟩ := p
  exact ⟨a, o, t, z, n, e, k _ _ ho hc, hc, hd⟩
theorem key_firsts {h : Heap} : ∀ {vs : List Value}, (∀ v ∈ vs, ∃ x, IsKey h v x) → ∃ fs : List Value, PySem.W.KatTups h vs fs ∧ fs.length = vs.length ∧ ∀ f ∈ fs, ∃ x t, f = Value.int x t
  | [], _ => ⟨[], PySem.W.KatTups.nil, rfl, fun _ hm => by simp at hm⟩
  | v :: vs, hp => by
    obtain ⟨fs, h1, h2, h3⟩ := key_firsts (vs := vs) fun v' hm => hp v' (List.mem_cons_of_mem _ hm)
    obtain ⟨x, a, o, t, z, n, e, ho, hc, hd⟩ := hp v List.mem_cons_self
    subst e
    refine ⟨.int x t :: fs, ?_, by simp [h2], fun f hf => ?_⟩
    · exact PySem.W.KatTups.cons ho hc hd (by rfl) h1
    · rcases List.mem_cons.mp hf with e | hf
      · exact ⟨x, t, e⟩
      · exact h3 f hf
theorem swo_key (k : Value → Int) : Swo fun v u => decide (k v < k u) :=
  ⟨fun x y h => by simp only [decide_eq_true_eq, decide_eq_false_iff_not] at *; omega, fun x y z h1 h2 => by simp only [decide_eq_false_iff_not] at *; omega⟩
theorem key_cmp {vs : List Value} {k : Value → Int} (hp : ∀ v ∈ vs, IsKey s.heap v (k v)) (inj : ∀ v ∈ vs, ∀ u ∈ vs, k v = k u → v = u) : Cmp prog w A s (tuples' true) (fun p => p.1 ∈ vs) (lt2 fun v u => decide (k v < k u)) := by
  intro p q hm hm'
  have h1 := hp _ hm
  have h2 := hp _ hm'
  show wpAny (model prog w) A (keyLt' (tuples' true) p.1 q.1) (fun r s' => s' = s ∧ r = decide (k p.1 < k q.1)) (fun _ _ => False) s
  by_cases e0 : p.1 = q.1
  · rw [← e0]
    obtain ⟨a, o, t, z, n, e, ho, hc, hd⟩ := h1
    have e3 : decide (k p.1 < k p.1) = false := decide_eq_false (Int.lt_irrefl _)
    rw [e3]
    generalize k p.1 = x at hd
    rw [e]
    refine PySem.W.kat_lt ho hd ho hd ?_
    show PySem.W.KatLex prog w A true (decide (2 < 2)) _ [(.int x t, .int x t), (z, z)] 0 s
    refine PySem.W.kat_cons (SeqAt.EqAt.same _ prog w _ _ ?_)
    refine PySem.W.kat_yes (PySem.W.kat_cons (SeqAt.EqAt.same z prog w _ _ ?_))
    exact PySem.W.kat_yes (PySem.W.kat_nil ⟨rfl, rfl⟩)
  · have ne : k p.1 ≠ k q.1 := fun z => e0 (inj _ hm _ hm' z)
    obtain ⟨a, o, t, z, n, e, ho, hc, hd⟩ := h1
    obtain ⟨a', o', t', z', n', e', ho', hc', hd'⟩ := h2
    generalize k p.1 = x at hd ne ⊢
    generalize k q.1 = x' at hd' ne ⊢
    rw [e, e']
    refine PySem.W.kat_lt ho hd ho' hd' ?_
    show PySem.W.KatLex prog w A true (decide (2 < 2)) _ [(.int x t, .int x' t'), (z, z')] 0 s
    refine PySem.W.kat_cons (SeqAt.EqAt.int_int x t x' t' prog w _ _ ?_)
    have eb : (x == x') = false := by simpa using ne
    rw [eb]
    exact PySem.W.kat_no (oneLt_int ⟨rfl, rfl⟩)
theorem key_sortable {a : Addr} {vs : List Value} {k : Value → Int} (h0 : 0 < vs.length) (hp : ∀ v ∈ vs, IsKey s.heap v (k v)) (inj : ∀ v ∈ vs, ∀ u ∈ vs, k v = k u → v = u) (ha : ∀ o, s.heap.get? a = some o → o.cls ≠ .type "tuple") : SortableO prog w A s a vs fun v u => decide (k v < k u) := by
  intro h' keep
  have hp' : ∀ v ∈ vs, IsKey h' v (k v) := fun v hm => (hp v hm).keeps fun b o e c => keep b o (fun z => by subst z; exact ha o e c) e
  obtain ⟨fs, h1, h2, h3⟩ := key_firsts fun v hm => ⟨_, hp' v hm⟩
  refine ⟨tuples' true, fun Q E hq => ?_, key_cmp hp' inj⟩
  refine PySem.W.kat_kind (T := .type "int") h1 (by omega) (fun f hm => ?_) (by rfl) ?_
  · obtain ⟨x, t, rfl⟩ := h3 f hm
    exact PySem.W.Looks.now
  · have e : (Value.type "int" != Value.type "tuple") = true := by first | decide +kernel | rfl | decide
    rw [e]
    exact hq
theorem sorted_keys {l : Addr} {vs : List Value} {k : Value → Int} {Q : Value → Shared → Prop} (hl : s.heap.IsList l vs.toArray) (hz : vs.length ≤ sizeLine) (hp : ∀ v ∈ vs, IsKey s.heap v (k v)) (inj : ∀ v ∈ vs, ∀ u ∈ vs, k v = k u → v = u)
    (h : ∀ (h' : Heap) (d : Addr) (out : List Value), Srtd (fun v u => decide (k v < k u)) out → out.Perm vs → (∀ b o, s.heap.get? b = some o → h'.get? b = some o) → s.heap.objs.size ≤ d → (∃ n, h'.get? d = some (seqObj "list" out.toArray n)) → Q (.ref d) { s with heap := h' }) :
    wpAny (model prog w) A (PySem.call (.builtin "sorted") [.ref l]) Q E s := by
  refine sorted_ord (swo_key k) hl hz (fun h2 h₁ a ha kk => ?_) fun out hs hb => ?_
  · refine key_sortable (s := { s with heap := h₁ }) (by omega) (fun v hm => (hp v hm).keeps fun b o e _ => (kk b o e).2) inj fun o e => ?_
    have e' : some o = some (seqObj "list" vs.toArray 0) := e.symm.trans ha
    cases e'
    intro c
    exact absurd (Value.type.inj c) (by decide)
  · exact h _ _ out hs hb.perm (fun b o e => sortedAll_old e) (Nat.le_succ _) (sortedAll_at s.heap vs out.toArray)
end
end WL
namespace WL
open PySem
/-! ### the order of pairs -/
section
variable {α β : Type}
theorem insK_mem {p x : Int × α} : ∀ {l : List (Int × α)}, x ∈ insK p l ↔ x = p ∨ x ∈ l
  | [] => by simp [insK]
  | q :: r => by
    unfold insK
    split
    · simp
    · simp only [List.mem_cons, insK_mem (l := r)]
      constructor
      · rintro (h | h | h)
        · exact .inr (.inl h)
        · exact .inl h
        · exact .inr (.inr h)
      · rintro (h | h | h)
        · exact .inr (.inl h)
        · exact .inl h
        · exact .inr (.inr h)
theorem insK_perm (p : Int × α) : ∀ l : List (Int × α), (insK p l).Perm (p :: l)
  | [] => by simp [insK]
  | q :: r => by
    unfold insK
    split
    · exact List.Perm.refl _
    · exact ((insK_perm p r).cons q).trans (List.Perm.swap p q r)
theorem sortK_perm : ∀ l : List (Int × α), (sortK l).Perm l
  | [] => List.Perm.refl _
  | p :: r => (insK_perm p (sortK r)).trans ((sortK_perm r).cons p)
theorem insK_sorted {p : Int × α} : ∀ {l : List (Int × α)}, l.Pairwise (fun x y => ¬ y.1 < x.1) → (insK p l).Pairwise (fun x y => ¬ y.1 < x.1)
  | [], _ => by simp [insK]
  | q :: r, h => by
    obtain ⟨h1, h2⟩ := List.pairwise_cons.mp h
    unfold insK
    split
    · rename_i hlt
      refine List.pairwise_cons.mpr ⟨fun y hy => ?_, h⟩
      rcases List.mem_cons.mp hy with rfl | hy
      · omega
      · have := h1 y hy
        omega
    · rename_i hlt
      refine List.pairwise_cons.mpr ⟨fun y hy => ?_, insK_sorted h2⟩
      rcases insK_mem.mp hy with rfl | hy
      · exact hlt
      · exact h1 y hy
theorem sortK_sorted : ∀ l : List (Int × α), (sortK l).Pairwise (fun x y => ¬ y.1 < x.1)
  | [] => List.Pairwise.nil
  | p :: r => insK_sorted (sortK_sorted r)
theorem insK_rel {R : α → β → Prop} {p : Int × α} {q : Int × β} (h : p.1 = q.1 ∧ R p.2 q.2) : ∀ {l : List (Int × α)} {l' : List (Int × β)}, Paired (fun x y => x.1 = y.1 ∧ R x.2 y.2) l l' → Paired (fun x y => x.1 = y.1 ∧ R x.2 y.2) (insK p l) (insK q l')
  | _, _, .nil => .cons h .nil
  | _, _, @Paired.cons _ _ _ a b r r' hr t => by
    unfold insK
    rw [h.1, hr.1]
    split
    · exact .cons h (.cons hr t)
    · exact .cons hr (insK_rel h t)
theorem sortK_rel {R : α → β → Prop} : ∀ {l : List (Int × α)} {l' : List (Int × β)}, Paired (fun x y => x.1 = y.1 ∧ R x.2 y.2) l l' → Paired (fun x y => x.1 = y.1 ∧ R x.2 y.2) (sortK l) (sortK l')
  | _, _, .nil => .nil
  | _, _, .cons hr t => insK_rel hr (sortK_rel t)
theorem paired_snd {R : α → β → Prop} : ∀ {l : List (Int × α)} {l' : List (Int × β)}, Paired (fun x y => x.1 = y.1 ∧ R x.2 y.2) l l' → Paired R (l.map (·.2)) (l'.map (·.2))
  | _, _, .nil => .nil
  | _, _, .cons hr t => .cons hr.2 (paired_snd t)
theorem paired_zip {R : α → β → Prop} : ∀ {ks : List Int} {l : List α} {l' : List β}, Paired R l l' → Paired (fun x y => x.1 = y.1 ∧ R x.2 y.2) (ks.zip l) (ks.zip l')
  | [], _, _, _ => .nil
  | k :: ks, _, _, .nil => .nil
  | k :: ks, _, _, .cons hr t => .cons ⟨rfl, hr⟩ (paired_zip t)
theorem sortL_rel {R : α → β → Prop} {ks : List Int} {l : List α} {l' : List β} (h : Paired R l l') : Paired R (sortL ks l) (sortL ks l') := paired_snd (sortK_rel (paired_zip h))
end
section
open PySem L2
variable {K : PySem.W.Frag} {H : Hp} {ι : Pls}
theorem rvs_paired : ∀ {ds : List D} {vs : List V}, RVs K H ι ds vs → Paired (RV K H ι) ds vs
  | [], vs, h => by
    rw [rvs_nil' h]
    exact .nil
  | d :: ds, vs, h => by
    obtain ⟨v, r, rfl, h1, h2⟩ := rvs_cons' h
    exact .cons h1 (rvs_paired h2)
theorem paired_rvs : ∀ {ds : List D} {vs : List V}, Paired (RV K H ι) ds vs → RVs K H ι ds vs
  | _, _, .nil => rvs_nil
  | _, _, .cons h t => rvs_cons h (paired_rvs t)
variable {X : Cx} {cl : Cl} {m : Md}
theorem keys_of {pins : List (Addr × Obj)} {σ : L2.St} {s : Shared} (I : Inv X pins σ H s) : ∀ {ds : List D} {vs : List V} {its : List Value} {ks : List Int}, RVs X.K H ι ds vs → Vals vs its → keysD ds = some ks → Paired (fun k v => IsKey s.heap v k) ks its
  | [], vs, its, ks, h, r, e => by
    rw [rvs_nil' h] at r
    cases r
    cases e
    exact .nil
  | d :: ds, vs, its, ks, h, r, e => by
    obtain ⟨v, vr, rfl, h1, h2⟩ := rvs_cons' h
    simp only [keysD] at e
    cases hk : keyD d with
    | none => rw [hk] at e; cases e
    | some k =>
      cases hks : keysD ds with
      | none => rw [hk, hks] at e; cases e
      | some ks' =>
        rw [hk, hks] at e
        cases e
        cases r with
        | cons r1 rr =>
          refine .cons ?_ (keys_of I h2 rr hks)
          unfold keyD at hk
          split at hk
          · cases hk
            obtain ⟨t, ws, rfl, q1, q2⟩ := rv_tup h1
            obtain ⟨v1, v2, rfl, q3, q4⟩ := two_rv q2
            obtain rfl := rv_int q3
            cases r1
            obtain ⟨its2, rv2, ⟨o, ho, hc, n, hd⟩, _⟩ := I.tuple q1
            obtain ⟨u1, u2, rfl, ri, rj⟩ := vals2 rv2
            obtain ⟨t1, rfl⟩ := ri
            exact ⟨_, o, t1, u2, n, rfl, ho, hc, hd⟩
          · cases hk
theorem IsKey.uniq {h : Heap} {v : Value} {k k' : Int} (a : IsKey h v k) (b : IsKey h v k') : k = k' := by
  obtain ⟨a1, o, t, z, n, e, ho, hc, hd⟩ := a
  obtain ⟨a2, o', t', z', n', e', ho', hc', hd'⟩ := b
  rw [e] at e'
  cases e'
  rw [ho] at ho'
  cases ho'
  rw [hd] at hd'
  injection hd' with h1 h2
  have h3 := congrArg Array.toList h1
  simp at h3
  exact h3.1.1
theorem paired_zip_map {k : Value → Int} : ∀ {ks : List Int} {its : List Value}, Paired (fun n v => n = k v) ks its → ks.zip its = its.map fun v => (k v, v)
  | _, _, .nil => rfl
  | _, _, .cons h t => by rw [List.zip_cons_cons, List.map_cons, h, paired_zip_map t]
theorem paired_map {k : Value → Int} : ∀ {ks : List Int} {its : List Value}, Paired (fun n v => n = k v) ks its → ks = its.map k
  | _, _, .nil => rfl
  | _, _, .cons h t => by rw [List.map_cons, ← h, ← paired_map t]
theorem paired_memR {α β : Type} {R : α → β → Prop} : ∀ {l : List α} {l' : List β}, Paired R l l' → ∀ y ∈ l', ∃ x ∈ l, R x y
  | _, _, .nil, y, h => nomatch h
  | _, _, .cons h t, y, hy => by
    rcases List.mem_cons.mp hy with rfl | hy
    · exact ⟨_, List.mem_cons_self, h⟩
    · obtain ⟨x, h1, h2⟩ := paired_memR t y hy
      exact ⟨x, List.mem_cons_of_mem _ h1, h2⟩
theorem inj_of_nodup {k : Value → Int} {its : List Value} (h : (its.map k).Nodup) : ∀ v ∈ its, ∀ u ∈ its, k v = k u → v = u := by
  induction its with
  | nil => intro v hv; cases hv
  | cons a l ih =>
    rw [List.map_cons, List.nodup_cons] at h
    intro v hv u hu e
    rcases List.mem_cons.mp hv with hv' | hv' <;> rcases List.mem_cons.mp hu with hu' | hu'
    · rw [hv', hu']
    · rw [hv'] at e
      exact absurd (List.mem_map.mpr ⟨u, hu', e.symm⟩) h.1
    · rw [hu'] at e
      exact absurd (List.mem_map.mpr ⟨v, hv', e⟩) h.1
    · exact ih h.2 v hv' u hu' e
theorem vals_len {xs : List V} {its : List Value} (h : Vals xs its) : xs.length = its.length := h.length
theorem snd_sorted {W : WX} : CallR X (.builtin "sorted") (rF X.K cl m W bSort) := by
  intro pins s σ H xs us Q I r h
  obtain ⟨ds0, S, ι, σ', hS, hd, hp⟩ := h
  unfold bSort at hp
  split at hp
  · obtain ⟨v, rfl, h1⟩ := one_rv hd
    split at hp
    · rename_i es he
      split at hp
      · rename_i ks hks
        obtain ⟨nd, hp⟩ := Pst.ite hp
        obtain ⟨a, vs, rfl, h2, h3⟩ := lstOf_rv hS h1 he
        obtain ⟨its, rv, hl, hz⟩ := I.list (SqL.of (K := X.K) h2)
        obtain ⟨u, rfl, ru⟩ := vals1 r
        obtain rfl : u = Value.ref a := ru
        have pk := keys_of I h3 rv hks
        let k : Value → Int := fun v => Classical.epsilon fun n => IsKey s.heap v n
        have pk2 : Paired (fun n v => n = k v) ks its := L2.Paired.mapP pk fun n v hn => IsKey.uniq hn (Classical.epsilon_spec (p := fun n => IsKey s.heap v n) ⟨n, hn⟩)
        have ek : ∀ v ∈ its, IsKey s.heap v (k v) := fun v hv => by
          obtain ⟨n, _, hn⟩ := paired_memR pk v hv
          exact Classical.epsilon_spec (p := fun n => IsKey s.heap v n) ⟨n, hn⟩
        have inj := inj_of_nodup (k := k) (its := its) (by rw [← paired_map pk2]; exact nd)
        refine sorted_keys (k := k) hl.isList (by rw [← rv.length]; exact hz) ek inj fun h' d out hs hperm kp hd hn => ?_
        have e2 : out = sortL ks its := by
          have q1 : sortL ks its = (sortK (its.map fun v => (k v, v))).map (·.2) := by unfold sortL; rw [paired_zip_map pk2]
          have q2 : (sortL ks its).Perm its := by
            rw [q1]
            have := (sortK_perm (its.map fun v => (k v, v))).map (·.2)
            simpa [List.map_map, Function.comp_def] using this
          have mm : ∀ p ∈ sortK (its.map fun v => (k v, v)), p.1 = k p.2 := fun p hp => by
            obtain ⟨v, _, rfl⟩ := List.mem_map.mp ((sortK_perm _).mem_iff.mp hp)
            rfl
          have q3 : (sortL ks its).Pairwise fun v u => decide (k u < k v) = false := by
            rw [q1, List.pairwise_map]
            refine (sortK_sorted (its.map fun v => (k v, v))).imp_of_mem fun {x y} hx hy hxy => ?_
            rw [← mm x hx, ← mm y hy]
            exact decide_eq_false hxy
          refine List.Perm.eq_of_pairwise (le := fun v u => decide (k u < k v) = false) (fun x y hx hy h1 h2 => ?_) hs q3 (hperm.trans q2.symm)
          refine inj x (hperm.mem_iff.mp hx) y (q2.mem_iff.mp hy) ?_
          simp only [decide_eq_false_iff_not] at h1 h2
          omega
        obtain ⟨n, hn⟩ := hn
        have np : H d = none := I.hok.fresh hd
        have rvo : Vals (sortL ks vs) out := by rw [e2]; exact sortL_rel rv
        have rvd : RVs X.K H ι (sortL ks es) (sortL ks vs) := paired_rvs (sortL_rel (rvs_paired h3))
        refine ⟨.ref d, upd H d (.lst (sortL ks vs)), I.laid (t' := s.toks) kp hd ⟨?_, out, n, rvo, hn⟩, rfl, Pst.lstN hp hS rvd np⟩
        rw [rvo.length, hperm.length_eq, ← rv.length]
        exact hz
      · exact hp.elim
    · exact hp.elim
  · exact hp.elim
end
end WL
end
section
set_option Elab.async false
set_option linter.all false
set_option maxRecDepth 100000
set_option maxHeartbeats 4000000
/-! WE2: the built-in functions together. -/
namespace WL
open PySem L2
section
variable {X : Cx} {cl : Cl} {m : Md}
theorem snd_bif {W : WX} {k : Nat} (f : BF) (hc : bfHot f = false → X.calm = true) (hr : RoomG k X.A) : CallR X (bfVal f) (rF X.K cl m W (bifD f)) := by
  have hu := hr.units
  have two : ∀ {f : Int → Int → Int} {ds : List D} {xs : List V} {S : Sto} {ι : Pls} {σ : St} {H : Hp} {Q : VK}, RS X.K cl m H ι S → RVs X.K H ι ds xs → PstE X.K cl m W σ ι H (bTwo f ds S) Q → ∃ i j, xs = [.int i, .int j] ∧ Q (.int (f i j)) H := by
    intro f ds xs S ι σ H Q hS hd hp
    unfold bTwo at hp
    split at hp
    · obtain ⟨v, u, rfl, h1, h2⟩ := two_rv hd
      rw [rv_int h1, rv_int h2]
      exact ⟨_, _, rfl, Pst.here hp hS (by simp [RV])⟩
    · exact hp.elim
  have bools : ∀ {f : List Bool → Bool} {ds : List D} {xs : List V} {S : Sto} {ι : Pls} {σ : St} {H : Hp} {Q : VK}, RS X.K cl m H ι S → RVs X.K H ι ds xs → PstE X.K cl m W σ ι H (bBls (fun ns => .bl (f ns)) ds S) Q →
      ∃ (a : Addr) (bs : List Bool), xs = [V.ref a] ∧ SqL X.K H a (bs.map V.bl) ∧ Q (.bl (f bs)) H := by
    intro f ds xs S ι σ H Q hS hd hp
    unfold bBls at hp
    split at hp
    · obtain ⟨v, rfl, h1⟩ := one_rv hd
      split at hp
      · rename_i ns he
        obtain ⟨es, e1, e2⟩ := Option.bind_eq_some_iff.mp he
        obtain ⟨a, vs, rfl, h2, h3⟩ := lstOf_rv hS h1 e1
        have := bls_rv h3 e2
        subst this
        exact ⟨a, ns, rfl, SqL.of h2, Pst.here hp hS (by simp [RV])⟩
      · exact hp.elim
    · exact hp.elim
  cases f with
  | len =>
    refine CallR.imp call_len fun xs H Q h => ?_
    obtain ⟨ds, S, ι, σ, hS, hd, hp⟩ := h
    simp only [bifD, bLen] at hp
    split at hp
    · obtain ⟨v, rfl, h1⟩ := one_rv hd
      obtain ⟨hz, hp⟩ := Pst.ite hp
      rw [rv_str h1]
      exact ⟨_, _, rfl, ⟨hz, rfl⟩, Pst.here hp hS (by simp [RV])⟩
    · obtain ⟨v, rfl, h1⟩ := one_rv hd
      split at hp
      · rename_i es he
        obtain ⟨p, vs, rfl, h2, h3⟩ := items_rv hS h1 he
        have l := RVs.length h3
        refine ⟨_, es.length, rfl, ?_, Pst.here hp hS (by simp [RV])⟩
        rcases h2 with h2 | h2
        · exact .inl ⟨vs, h2, l⟩
        · exact .inr ⟨vs, h2, l⟩
      · exact hp.elim
    · exact hp.elim
  | abs =>
    refine CallR.imp call_abs fun xs H Q h => ?_
    obtain ⟨ds, S, ι, σ, hS, hd, hp⟩ := h
    simp only [bifD, bAbs] at hp
    split at hp
    · obtain ⟨v, rfl, h1⟩ := one_rv hd
      rw [rv_int h1]
      exact ⟨_, rfl, Pst.here hp hS (by simp [RV])⟩
    · exact hp.elim
  | int =>
    refine CallR.imp call_int1 fun xs H Q h => ?_
    obtain ⟨ds, S, ι, σ, hS, hd, hp⟩ := h
    simp only [bifD, bInt] at hp
    split at hp
    · obtain ⟨v, rfl, h1⟩ := one_rv hd
      rw [rv_int h1]
      exact .inl ⟨_, rfl, Pst.here hp hS (by simp [RV])⟩
    · obtain ⟨v, rfl, h1⟩ := one_rv hd
      rw [rv_bl h1]
      exact .inr ⟨_, rfl, Pst.here hp hS (by simp [RV])⟩
    · exact hp.elim
  | tup =>
    refine CallR.imp call_tuple_of fun xs H Q h => ?_
    obtain ⟨ds, S, ι, σ, hS, hd, hp⟩ := h
    simp only [bifD, bTup] at hp
    split at hp
    · obtain ⟨v, rfl, h1⟩ := one_rv hd
      split at hp
      · rename_i es he
        obtain ⟨p, vs, rfl, h2, h3⟩ := items_rv hS h1 he
        rcases h2 with h2 | h2
        · exact ⟨p, vs, rfl, .inl ⟨h2, fun l nl => Pst.tupN hp hS h3 nl⟩⟩
        · exact ⟨p, vs, rfl, .inr ⟨h2, Pst.here hp hS (rv_tup_of h2 h3)⟩⟩
      · exact hp.elim
    · exact hp.elim
  | lst =>
    refine CallR.imp call_list_of fun xs H Q h => ?_
    obtain ⟨ds, S, ι, σ, hS, hd, hp⟩ := h
    simp only [bifD, bLst] at hp
    split at hp
    · obtain ⟨v, rfl, h1⟩ := one_rv hd
      split at hp
      · rename_i es he
        obtain ⟨p, vs, rfl, h2, h3⟩ := items_rv hS h1 he
        exact ⟨p, vs, rfl, h2, fun l nl => Pst.lstN hp hS h3 nl⟩
      · exact hp.elim
    · exact hp.elim
  | repr =>
    refine CallR.imp (call_reprD hr.gd (by omega)) fun xs H Q h => ?_
    obtain ⟨ds, S, ι, σ, hS, hd, hp⟩ := h
    simp only [bifD, bRepr] at hp
    split at hp
    · obtain ⟨v, rfl, h1⟩ := one_rv hd
      split at hp
      · rename_i p he
        obtain ⟨⟨h4, h5⟩, hp⟩ := Pst.ite hp
        obtain ⟨a1, a2, a3⟩ := pd_ok hS 60 _ v p h1 he
        exact ⟨v, p, rfl, a1, a2, a3, h4, h5, Pst.here hp hS (by simp [RV])⟩
      · exact hp.elim
    · exact hp.elim
  | sum =>
    refine CallR.imp (cr_sum (hc rfl)) fun xs H Q h => ?_
    obtain ⟨ds, S, ι, σ, hS, hd, hp⟩ := h
    simp only [bifD, bInts] at hp
    split at hp
    · obtain ⟨v, rfl, h1⟩ := one_rv hd
      split at hp
      · rename_i ns he
        obtain ⟨es, e1, e2⟩ := Option.bind_eq_some_iff.mp he
        obtain ⟨a, vs, rfl, h2, h3⟩ := lstOf_rv hS h1 e1
        have := ints_rv h3 e2
        subst this
        exact ⟨a, ns, rfl, SqL.of h2, Pst.here hp hS (by simp [RV])⟩
      · exact hp.elim
    · exact hp.elim
  | all =>
    refine CallR.imp (cr_all (hc rfl)) fun xs H Q h => ?_
    obtain ⟨ds, S, ι, σ, hS, hd, hp⟩ := h
    exact bools hS hd hp
  | any =>
    refine CallR.imp (cr_any (hc rfl)) fun xs H Q h => ?_
    obtain ⟨ds, S, ι, σ, hS, hd, hp⟩ := h
    exact bools hS hd hp
  | min2 =>
    refine CallR.imp (call_min2 (hc rfl)) fun xs H Q h => ?_
    obtain ⟨ds, S, ι, σ, hS, hd, hp⟩ := h
    exact two hS hd hp
  | max2 =>
    refine CallR.imp (call_max2 (hc rfl)) fun xs H Q h => ?_
    obtain ⟨ds, S, ι, σ, hS, hd, hp⟩ := h
    exact two hS hd hp
  | sorted => exact snd_sorted
  | _ =>
    refine CallR.imp CallR.never fun xs H Q h => ?_
    obtain ⟨ds, S, ι, σ, hS, hd, hp⟩ := h
    simp only [bifD] at hp
    exact hp.elim
end
end WL
end
section
set_option Elab.async false
set_option linter.all false
set_option maxRecDepth 100000
set_option maxHeartbeats 4000000
/-! WF: what a loop or a comprehension walks. -/
namespace WL
open PySem L2
section
variable {X : Cx} {tg : Expr}
/-- a list, a tuple or a text is walked -/
def iAny (K : PySem.W.Frag) (te : TE) : TI := fun σ H R => te σ H fun x H1 => (∃ a, x = .ref a ∧ (∃ xs, SqL K H1 a xs) ∧ R (Itl K a) H1) ∨ (∃ a, x = .ref a ∧ (∃ xs, SqT K H1 a xs) ∧ R (Itt K a) H1) ∨ ∃ z, x = .str z ∧ R (Its z) H1
theorem pi_any {l : Expr} {te : TE} (hl : PE X l te) : PI X tg l (iAny X.K te) := by
  refine ⟨fun pins s σ H R I h => thn (hl.run pins s σ H _ I h) fun v s1 hh => ?_⟩
  obtain ⟨x, H1, I1, r1, q⟩ := hh
  have seat : ∀ {o : Obj} {tn : Nat → Heap → Prop} {J : It}, Turn X.prog X.w X.K tg J [s1.heap.objs.size] s1.heap.objs.size tn → tn 0 (s1.heap.push o) → R J H1 →
      PIE X pins σ tg R (.ref s1.heap.objs.size) { s1 with heap := s1.heap.push o } := fun {o tn J} T t0 w => by
    refine ⟨s1.heap.objs.size, [s1.heap.objs.size], tn, J, H1, rfl, I1.kept (t' := s1.toks) fun b u e => Heap.get?_push_of_some _ e, T, t0, fun b hb => ?_, w⟩
    obtain rfl : b = s1.heap.objs.size := by simpa using hb
    exact I1.fpOk (Nat.le_refl _) (I1.hok.fresh (Nat.le_refl _))
  rcases q with ⟨a, rfl, ⟨xs, hq⟩, w⟩ | ⟨a, rfl, ⟨xs, hq⟩, w⟩ | ⟨z, rfl, w⟩
  · cases r1
    obtain ⟨its, _, p, _⟩ := I1.list hq
    exact wpAny_pyIter_list p.isList (seat (turn_list a _) ⟨_, Heap.get?_push_size _ rfl, rfl, rfl⟩ w)
  · cases r1
    obtain ⟨its, _, p, _⟩ := I1.tuple hq
    exact wpAny_pyIter_tuple (show s1.heap.IsTuple a its.toArray from p) (seat (turn_tuple a _) ⟨_, Heap.get?_push_size _ rfl, rfl, rfl⟩ w)
  · obtain ⟨t, rfl⟩ := r1
    cases ha : z.cps.all (· < 128)
    · exact wpAny_pyIter_wide ha (seat (turn_str _ z t "str_iterator" (.inr rfl)) ⟨_, Heap.get?_push_size _ rfl, rfl, rfl⟩ w)
    · exact wpAny_pyIter_ascii ha (seat (turn_str _ z t "str_ascii_iterator" (.inl rfl)) ⟨_, Heap.get?_push_size _ rfl, rfl, rfl⟩ w)
theorem PI.imp {e : Expr} {t t' : TI} (h : PI X tg e t) (f : ∀ σ H Q, t' σ H Q → t σ H Q) : PI X tg e t' := ⟨fun pins s σ H R I q => h.run pins s σ H R I (f σ H R q)⟩
end
/-- J walks w from (ι1, H1) on -/
structure Wlk (K : PySem.W.Frag) (cl : Cl) (m : Md) (w : Wk) (ι1 : Pls) (H1 : Hp) (J : It) : Prop where
  goes : ∀ i ι H S, i < w.items.length → Step ι1 H1 ι H → RS K cl m H ι S → w.held S → J.go i H
  stops : ∀ ι H S, Step ι1 H1 ι H → RS K cl m H ι S → w.held S → J.stop w.items.length H
  yields : ∀ i ι H S x H' d, w.items[i]? = some d → Step ι1 H1 ι H → RS K cl m H ι S → w.held S → J.yld i H x H' → (∀ b o, H b = some o → H' b = some o) ∧ RV K H' ι d x
def PstI (K : PySem.W.Frag) (cl : Cl) (m : Md) (W : WX) (σ : St) (ι : Pls) (H : Hp) (r : Res Wk) (R : It → Hp → Prop) : Prop := match r with
  | .ok w S1 => ∀ J H1 ι1, Step ι H ι1 H1 → RS K cl m H1 ι1 S1 → Wlk K cl m w ι1 H1 J → R J H1
  | .exc c fs S' => ∀ dd H' ι', Step ι H ι' H' → RS K cl m H' ι' S' → RX K H' ι' fs dd → W (.ref (cl c)) dd σ H'
  | .bad => False
def tI (K : PySem.W.Frag) (cl : Cl) (m : Md) (W : WX) (r : Ro → Sto → Res Wk) : TI := fun σ H R => ∃ ρ S ι, Go K cl m ρ S ι σ H ∧ PstI K cl m W σ ι H (r ρ S) R
section
variable {K : PySem.W.Frag} {cl : Cl} {m : Md} {W : WX} {σ : St} {ι : Pls} {H : Hp} {R : It → Hp → Prop}
theorem PstI.step {ι1 : Pls} {H1 : Hp} {r : Res Wk} (st : Step ι H ι1 H1) (h : PstI K cl m W σ ι H r R) : PstI K cl m W σ ι1 H1 r R := by
  cases r with
  | ok d S' => exact fun J H' ι' s2 => h J H' ι' (st.trans s2)
  | exc c fs S' => exact fun dd H' ι' s2 => h dd H' ι' (st.trans s2)
  | bad => exact h
theorem PstI.of_bind {α β : Type} {R1 : Hp → Pls → α → β → Prop} {Q : β → Hp → Prop} {r : Res α} {f : α → Sto → Res Wk} (h : PstI K cl m W σ ι H (r.bind f) R)
    (k : ∀ d S1 v H1 ι1, r = .ok d S1 → Step ι H ι1 H1 → RS K cl m H1 ι1 S1 → R1 H1 ι1 d v → PstI K cl m W σ ι1 H1 (f d S1) R → Q v H1) : Pst K cl m W R1 σ ι H r Q := by
  cases r with
  | ok d S1 => exact fun v H1 ι1 st rs rv => k d S1 v H1 ι1 rfl st rs rv (PstI.step st h)
  | exc c fs S1 => exact h
  | bad => exact h
/-! ### places left out -/
mutual
theorem RV.low : ∀ {d : D} {v : V}, RV K H ι d v → d.low ι.length = true
  | .non, _, _ => rfl
  | .bl _, _, _ => rfl
  | .int _, _, _ => rfl
  | .str _, _, _ => rfl
  | .tup ds, v, h => by
    simp only [RV] at h
    obtain ⟨a, vs, _, _, r⟩ := h
    simp only [D.low]
    exact RVs.lows r
  | .ref l, v, h => by
    simp only [RV] at h
    obtain ⟨a, b, _, q⟩ := h
    simp only [D.low, decide_eq_true_eq]
    exact (List.getElem?_eq_some_iff.mp q).1
theorem RVs.lows : ∀ {ds : List D} {vs : List V}, RVs K H ι ds vs → WL.lows ι.length ds = true
  | [], _, _ => rfl
  | d :: ds, vs, h => by
    simp only [RVs] at h
    obtain ⟨v, r, _, q, t⟩ := h
    simp only [WL.lows, Bool.and_eq_true]
    exact ⟨RV.low q, RVs.lows t⟩
end
theorem RF.low : ∀ {ds : List (Str × D)} {vs : List (Str × V)}, RF K H ι ds vs → lowF ι.length ds = true
  | [], _, _ => rfl
  | (x, d) :: ds, vs, h => by
    simp only [RF] at h
    obtain ⟨v, r, _, q, t⟩ := h
    simp only [lowF, Bool.and_eq_true]
    exact ⟨RV.low q, RF.low t⟩
mutual
theorem RV.take {n : Nat} : ∀ {d : D} {v : V}, RV K H ι d v → d.low n = true → RV K H (ι.take n) d v
  | .non, _, h, _ => h
  | .bl _, _, h, _ => h
  | .int _, _, h, _ => h
  | .str _, _, h, _ => h
  | .tup ds, v, h, e => by
    simp only [RV] at h ⊢
    obtain ⟨a, vs, q1, q2, r⟩ := h
    simp only [D.low] at e
    exact ⟨a, vs, q1, q2, RVs.takeL r e⟩
  | .ref l, v, h, e => by
    simp only [RV] at h ⊢
    obtain ⟨a, b, q1, q⟩ := h
    simp only [D.low, decide_eq_true_eq] at e
    exact ⟨a, b, q1, by rw [List.getElem?_take_of_lt e]; exact q⟩
theorem RVs.takeL {n : Nat} : ∀ {ds : List D} {vs : List V}, RVs K H ι ds vs → WL.lows n ds = true → RVs K H (ι.take n) ds vs
  | [], _, h, _ => h
  | d :: ds, vs, h, e => by
    simp only [RVs] at h ⊢
    obtain ⟨v, r, q0, q, t⟩ := h
    simp only [WL.lows, Bool.and_eq_true] at e
    exact ⟨v, r, q0, RV.take q e.1, RVs.takeL t e.2⟩
end
theorem RF.take {n : Nat} : ∀ {ds : List (Str × D)} {vs : List (Str × V)}, RF K H ι ds vs → lowF n ds = true → RF K H (ι.take n) ds vs
  | [], _, h, _ => h
  | (x, d) :: ds, vs, h, e => by
    simp only [RF] at h ⊢
    obtain ⟨v, r, q0, q, t⟩ := h
    simp only [lowF, Bool.and_eq_true] at e
    exact ⟨v, r, q0, RV.take q e.1, RF.take t e.2⟩
theorem RO.take {n : Nat} {a : Addr} : ∀ {o : O}, RO K cl m H ι a o → o.low n = true → RO K cl m H (ι.take n) a o
  | .lst ds, ⟨vs, q, r⟩, e => ⟨vs, q, RVs.takeL r e⟩
  | .rls ds, ⟨vs, q, r⟩, e => ⟨vs, q, RVs.takeL r e⟩
  | .ins c fs, ⟨dx, gs, q, r⟩, e => ⟨dx, gs, q, RF.take r e⟩
  | .exc c fs, ⟨d, q, r⟩, e => by
    refine ⟨d, q, ?_⟩
    rcases r with r | ⟨da, gs, q1, q2, r⟩
    · exact .inl r
    · exact .inr ⟨da, gs, q1, q2, RF.take r e⟩
theorem RO.low {a : Addr} : ∀ {o : O}, RO K cl m H ι a o → o.low ι.length = true
  | .lst ds, ⟨vs, q, r⟩ => RVs.lows r
  | .rls ds, ⟨vs, q, r⟩ => RVs.lows r
  | .ins c fs, ⟨dx, gs, q, r⟩ => RF.low r
  | .exc c fs, ⟨d, q, r⟩ => by
    rcases r with r | ⟨da, gs, q1, q2, r⟩
    · rw [r.1]
      rfl
    · exact RF.low r
theorem RS.take {S : Sto} {n : Nat} (r : RS K cl m H ι S) (hl : ∀ l o, l < n → S[l]? = some o → o.low n = true) : RS K cl m H (ι.take n) (S.take n) := by
  have cut : ∀ {α : Type} {L : List α} {l : Nat} {x : α}, (L.take n)[l]? = some x → l < n ∧ L[l]? = some x := fun {α L l x} e => by
    have h1 := (List.getElem?_eq_some_iff.mp e).1
    have h2 : l < n := by
      rw [List.length_take] at h1
      omega
    rw [List.getElem?_take_of_lt h2] at e
    exact ⟨h2, e⟩
  refine ⟨by simp [r.len], fun l k a e1 e2 => r.nd l k a (cut e1).2 (cut e2).2, fun l a o e1 e2 => ?_⟩
  obtain ⟨h1, h2⟩ := cut e1
  obtain ⟨_, h3⟩ := cut e2
  exact ⟨(r.at_ l a o h2 h3).1, RO.take (r.at_ l a o h2 h3).2 (hl l o h1 h3)⟩
/-- the end of a run whose new places are left out -/
theorem Step.cut {S : Sto} {ι' : Pls} {H' : Hp} (st : Step ι H ι' H') : ι'.take ι.length = ι := by
  obtain ⟨t, rfl⟩ := st.pre
  exact List.take_left
theorem low_old {S S' : Sto} {ι' : Pls} {H' : Hp} (r : RS K cl m H ι S) (hc : ∀ l, l < S.length → S'[l]? = S[l]? ∨ ∃ o, S'[l]? = some o ∧ o.low S.length = true) : ∀ l o, l < S.length → S'[l]? = some o → o.low S.length = true := fun l o hl e => by
  rcases hc l hl with q | ⟨o', q1, q2⟩
  · rw [e] at q
    obtain ⟨a, ha⟩ := r.there q.symm
    have z := RO.low (r.at_ l _ o ha q.symm).2
    rw [r.len] at z
    exact z
  · rw [e] at q1
    cases q1
    exact q2
/-- what is wanted behind gc is wanted behind the run -/
theorem gc_ok {S S' : Sto} {ds : List D} {ι' : Pls} {H' : Hp} (r : RS K cl m H ι S) (st : Step ι H ι' H') (r' : RS K cl m H' ι' S') :
    ∃ ι2, Step ι H ι2 H' ∧ RS K cl m H' ι2 (gc S ds S') ∧ (∀ d v, d ∈ ds → RV K H' ι' d v → RV K H' ι2 d v) ∧ (∀ vs, RVs K H' ι' ds vs → RVs K H' ι2 ds vs) := by
  unfold gc
  split
  · rename_i hc
    obtain ⟨h1, h2, h3⟩ := hc
    have q := RS.take (n := S.length) r' (low_old (H' := H') (ι' := ι') r h3)
    have e : ι'.take S.length = ι := by
      rw [← r.len]
      exact Step.cut (S := S) st
    rw [e] at q
    refine ⟨ι, ⟨⟨[], by simp⟩, fun _ _ h => .inl (List.getElem?_eq_some_iff.mp h).1, st.keep, st.there⟩, q, fun d v hd hv => ?_, fun vs hv => ?_⟩
    · have hl : d.low S.length = true := by
        clear q h3 h2
        induction ds with
        | nil => cases hd
        | cons x xs ih =>
          simp only [lows, Bool.and_eq_true] at h1
          rcases List.mem_cons.mp hd with rfl | hd
          · exact h1.1
          · exact ih h1.2 hd
      have := RV.take hv hl
      rw [e] at this
      exact this
    · have := RVs.takeL hv h1
      rw [e] at this
      exact this
  · exact ⟨ι', st, r', fun _ _ _ h => h, fun _ h => h⟩
end
end WL
end
section
set_option Elab.async false
set_option linter.all false
set_option maxRecDepth 100000
set_option maxHeartbeats 4000000
/-! WG: targets, walks. -/
namespace WL
open PySem L2
/-! ### targets -/
def gNs : List Nat → TGs
  | [] => gNil
  | i :: is => gCons (gName i) (gNs is)
def gT (K : PySem.W.Frag) : Tg → TG
  | .nm i => gName i
  | .tp is => gTup K is.length (gNs is)
section
variable {pg : Pg} {cl : Cl} {ck : Ck} {m : Md} {k : Nat} {call : Str → List D → Sto → Res D} {sc : Sc} {W : WX} {X : Cx}
theorem pg_nm (O : XOk pg cl ck m k call sc W X) {i : Nat} {e : Expr} (h : nmB ck sc i e = true) : PG X e (gName i) := by
  unfold nmB at h
  split at h
  · rename_i x hx
    obtain ⟨p, rfl⟩ := xName_eq hx
    simp only [Bool.and_eq_true, decide_eq_true_eq] at h
    obtain ⟨h1, h2⟩ := locB_ok h.2
    refine pg_name O.nd (by rw [O.N]; exact h.1) (by rw [O.scope]; exact h1) ?_
    rcases h2 with h2 | h2
    · exact .inl (O.fn x h2)
    · exact .inr (by rw [O.scope]; exact h2)
  · cases h
theorem nm_star {i : Nat} {e : Expr} (h : nmB ck sc i e = true) : isStar e = false := by
  unfold nmB at h
  split at h
  · rename_i x hx
    obtain ⟨p, rfl⟩ := xName_eq hx
    rfl
  · cases h
theorem each_of {e : Expr} {es : List Expr} {env : Env} (h : isStar e = false) : assignEach (e :: es) env = (false, assign e env) :: assignEach es env := by
  cases e <;> first | rfl | cases h
theorem pgs_nms (O : XOk pg cl ck m k call sc W X) : ∀ {is : List Nat} {es : List Expr}, nmsB ck sc is es = true → PGs X es (gNs is) ∧ (assignEach es X.env).length = is.length ∧ (assignEach es X.env).findIdx? (·.1) = none
  | [], [], _ => ⟨pgs_nil, rfl, rfl⟩
  | [], _ :: _, h => by cases h
  | _ :: _, [], h => by cases h
  | i :: is, e :: es, h => by
    simp only [nmsB, Bool.and_eq_true] at h
    obtain ⟨h1, h2, h3⟩ := pgs_nms O h.2
    have st := each_of (es := es) (env := X.env) (nm_star h.1)
    refine ⟨pgs_cons (pg_nm O h.1) h1 (by rw [st] <;> rfl), by rw [st, List.length_cons, h2, List.length_cons], ?_⟩
    rw [st, List.findIdx?_cons, h3]
    rfl
theorem pg_tg (O : XOk pg cl ck m k call sc W X) {t : Tg} {e : Expr} (h : tgB ck sc t e = true) : PG X e (gT X.K t) := by
  cases t with
  | nm i => exact pg_nm O h
  | tp is =>
    simp only [tgB, Bool.and_eq_true] at h
    obtain ⟨hh, h⟩ := h
    split at h
    · rename_i es hes
      obtain ⟨j, p, rfl⟩ := xTup_eq hes
      obtain ⟨h1, h2, h3⟩ := pgs_nms O h
      have hc : X.calm = true := by
        have e := O.cold (by simpa using hh)
        have mo := O.mode
        rw [e] at mo
        exact mo
      exact pg_tup hc h1 h2 h3
    · cases h
end
section
variable {K : PySem.W.Frag} {H : Hp} {ι : Pls}
theorem wipe_set {σ : St} {i : Nat} {v : Option V} : ∀ {vs : List Nat}, i ∈ vs → wipe (σ.set i v) vs = wipe σ vs
  | [], h => by cases h
  | j :: vs, h => by
    unfold wipe
    by_cases hj : i ∈ vs
    · rw [wipe_set hj]
    · have : i = j := by
        rcases List.mem_cons.mp h with z | z
        · exact z
        · exact absurd z hj
      subst this
      have key : ∀ (ws : List Nat) (τ : St), i ∉ ws → wipe (τ.set i v) ws = (wipe τ ws).set i v := by
        intro ws
        induction ws with
        | nil => intro τ _; rfl
        | cons a ws ih =>
          intro τ hn
          simp only [List.mem_cons, not_or] at hn
          unfold wipe
          rw [ih τ hn.2, List.set_comm _ _ hn.1]
      rw [key vs σ hj, List.set_set]
theorem kill_rel {ρ : Ro} {σ : St} (h : RE K H ι ρ σ) : ∀ vs : List Nat, RE K H ι (kill vs ρ) (wipe σ vs)
  | [] => h
  | i :: vs => by
    unfold kill wipe
    exact (kill_rel h vs).non2 i
theorem kill_non {ρ : Ro} {σ : St} (h : RE K H ι ρ σ) : ∀ vs : List Nat, RE K H ι (kill vs ρ) σ
  | [] => h
  | i :: vs => by
    unfold kill
    exact (kill_non h vs).non1 i
theorem putN_ok {ρ ρ1 : Ro} {σ : St} {i : Nat} {d : D} {v : V} (h : RE K H ι ρ σ) (r : RV K H ι d v) (e : putN i d ρ = some ρ1) : RE K H ι ρ1 (σ.set i (some v)) := by
  unfold putN at e
  split at e
  · cases e
    exact h.set r
  · cases e
theorem gNs_ok {N : St → Hp → Prop} {ρ1 : Ro} : ∀ {is : List Nat} {ds : List D} {vs : List V} {ρ : Ro} {σ : St}, RE K H ι ρ σ → RVs K H ι ds vs → putNs is ds ρ = some ρ1 →
    (∀ σ2, RE K H ι ρ1 σ2 → (∀ ws : List Nat, (∀ i ∈ is, i ∈ ws) → wipe σ2 ws = wipe σ ws) → N σ2 H) → gNs is vs σ H N
  | [], [], vs, ρ, σ, h, r, e, k => by
    simp only [putNs, Option.some.injEq] at e
    subst e
    exact ⟨rvs_nil' r, k σ h fun _ _ => rfl⟩
  | [], _ :: _, _, _, _, _, _, e, _ => by cases e
  | _ :: _, [], _, _, _, _, _, e, _ => by cases e
  | i :: is, d :: ds, vs, ρ, σ, h, r, e, k => by
    obtain ⟨v, us, rfl, r1, r2⟩ := rvs_cons' r
    simp only [putNs, Option.bind_eq_some_iff] at e
    obtain ⟨ρ2, e1, e2⟩ := e
    refine ⟨v, us, rfl, ?_⟩
    refine gNs_ok (putN_ok h r1 e1) r2 e2 fun σ2 h2 w2 => k σ2 h2 fun ws hw => ?_
    rw [w2 ws fun j hj => hw j (List.mem_cons_of_mem _ hj), wipe_set (hw i List.mem_cons_self)]
theorem gT_ok {N : St → Hp → Prop} {ρ ρ1 : Ro} {σ : St} {t : Tg} {d : D} {v : V} (h : RE K H ι ρ σ) (r : RV K H ι d v) (e : putT t d ρ = some ρ1)
    (k : ∀ σ2, RE K H ι ρ1 σ2 → (∀ ws : List Nat, (∀ i ∈ tgIx t, i ∈ ws) → wipe σ2 ws = wipe σ ws) → N σ2 H) : gT K t v σ H N := by
  cases t with
  | nm i => exact k _ (putN_ok h r e) fun ws hw => wipe_set (hw i List.mem_cons_self)
  | tp is =>
    cases d with
    | tup ds =>
      obtain ⟨a, vs, rfl, h1, h2⟩ := rv_tup r
      have e : putNs is ds ρ = some ρ1 := e
      refine ⟨a, vs, rfl, h1, ?_, gNs_ok h h2 e k⟩
      have hl : ∀ {is : List Nat} {ds : List D} {ρ : Ro}, putNs is ds ρ = some ρ1 → is.length = ds.length := by
        intro is
        induction is with
        | nil =>
          intro ds ρ e
          cases ds with
          | nil => rfl
          | cons _ _ => cases e
        | cons i is ih =>
          intro ds ρ e
          cases ds with
          | nil => cases e
          | cons d ds =>
            simp only [putNs, Option.bind_eq_some_iff] at e
            obtain ⟨ρ2, e1, e2⟩ := e
            simp [ih e2]
      rw [← RVs.length h2, hl e]
    | _ => cases e
end
/-! ### walks -/
section
variable {K : PySem.W.Frag} {cl : Cl} {m : Md} {H : Hp} {ι : Pls} {S : Sto}
theorem held_seq {l : Nat} {ds : List D} {a : Addr} {b : Bool} {ι' : Pls} {H' : Hp} (st : Step ι H ι' H') (r : RS K cl m H' ι' S) (e : ι[l]? = some (a, b)) (hh : S[l]? = some (.lst ds) ∨ S[l]? = some (.rls ds)) : ∃ vs, SqL K H' a vs ∧ RVs K H' ι' ds vs := by
  have e' := st.get e
  rcases hh with hh | hh
  · obtain ⟨_, vs, h1, h2⟩ := r.at_ l _ _ e' hh
    exact ⟨vs, SqL.of h1, h2⟩
  · obtain ⟨_, vs, h1, h2⟩ := r.at_ l _ _ e' hh
    exact ⟨vs, h1.seq, h2⟩
theorem wlk_list {l : Nat} {ds : List D} {a : Addr} {b : Bool} (e : ι[l]? = some (a, b)) : Wlk K cl m ⟨ds, [(l, ds)]⟩ ι H (Itl K a) where
  goes := fun i ι' H' S hi st r hh => by
    obtain ⟨vs, h1, h2⟩ := held_seq st r e (hh (l, ds) List.mem_cons_self)
    have hl : ds.length = vs.length := RVs.length h2
    exact ⟨vs, vs[i]'(by have : i < ds.length := hi; omega), h1, List.getElem?_eq_getElem _⟩
  stops := fun ι' H' S st r hh => by
    obtain ⟨vs, h1, h2⟩ := held_seq st r e (hh (l, ds) List.mem_cons_self)
    exact ⟨vs, h1, by rw [← RVs.length h2]; exact Nat.le_refl _⟩
  yields := fun i ι' H' S x H2 d hd st r hh y => by
    obtain ⟨vs, h1, h2⟩ := held_seq st r e (hh (l, ds) List.mem_cons_self)
    obtain ⟨rfl, y2⟩ := y
    obtain ⟨v, h3, h4⟩ := RVs.get h2 hd
    have := y2 vs h1
    rw [h3] at this
    cases this
    exact ⟨fun _ _ h => h, h4⟩
/-- a list that is no place any more -/
theorem wlk_free {ds : List D} {a : Addr} {vs : List V} (h : H a = some (.lst vs)) (nm : (a, true) ∉ ι) (rv : RVs K H ι ds vs) : Wlk K cl m ⟨ds, []⟩ ι H (Itl K a) where
  goes := fun i ι' H' S hi st r hh => by
    have h1 := st.keep a _ h fun _ => nm
    have hl := RVs.length rv
    exact ⟨vs, vs[i]'(by have : i < ds.length := hi; omega), SqL.of h1, List.getElem?_eq_getElem _⟩
  stops := fun ι' H' S st r hh => by
    have h1 := st.keep a _ h fun _ => nm
    exact ⟨vs, SqL.of h1, by rw [← RVs.length rv]; exact Nat.le_refl _⟩
  yields := fun i ι' H' S x H2 d hd st r hh y => by
    have h1 := st.keep a _ h fun _ => nm
    obtain ⟨rfl, y2⟩ := y
    obtain ⟨v, h3, h4⟩ := RVs.get rv hd
    have := y2 vs (SqL.of h1)
    rw [h3] at this
    cases this
    exact ⟨fun _ _ h => h, RV.step st _ _ h4⟩
theorem wlk_tup {ds : List D} {a : Addr} {vs : List V} (h : SqT K H a vs) (rv : RVs K H ι ds vs) : Wlk K cl m ⟨ds, []⟩ ι H (Itt K a) where
  goes := fun i ι' H' S hi st r hh => by
    have h1 := sqT_keep st.kp.imm h
    have hl := RVs.length rv
    exact ⟨vs, vs[i]'(by have : i < ds.length := hi; omega), h1, List.getElem?_eq_getElem _⟩
  stops := fun ι' H' S st r hh => by
    have h1 := sqT_keep st.kp.imm h
    exact ⟨vs, h1, by rw [← RVs.length rv]; exact Nat.le_refl _⟩
  yields := fun i ι' H' S x H2 d hd st r hh y => by
    have h1 := sqT_keep st.kp.imm h
    obtain ⟨rfl, y2⟩ := y
    obtain ⟨v, h3, h4⟩ := RVs.get rv hd
    have := y2 vs h1
    rw [h3] at this
    cases this
    exact ⟨fun _ _ h => h, RV.step st _ _ h4⟩
theorem wlk_str {z : Str} : Wlk K cl m ⟨z.cps.toList.map fun c => .str ⟨#[c]⟩, []⟩ ι H (Its z) where
  goes := fun i ι' H' S hi st r hh => by
    have : i < (z.cps.toList.map fun c => D.str ⟨#[c]⟩).length := hi
    have : i < z.cps.size := by simpa using this
    exact this
  stops := fun ι' H' S st r hh => by
    show z.cps.size ≤ (z.cps.toList.map fun c => D.str ⟨#[c]⟩).length
    simp
  yields := fun i ι' H' S x H2 d hd st r hh y => by
    obtain ⟨rfl, c, h1, h2⟩ := y
    have hd : (z.cps.toList.map fun c => D.str ⟨#[c]⟩)[i]? = some d := hd
    rw [List.getElem?_map, Array.getElem?_toList, h1] at hd
    cases hd
    exact ⟨fun _ _ h => h, by simp [RV, h2]⟩
theorem wlk_rng {lo hi : Int} : Wlk K cl m ⟨rangeD lo hi, []⟩ ι H (Itr lo (hi - lo).toNat) where
  goes := fun i ι' H' S hi' st r hh => by
    have : i < (rangeD lo hi).length := hi'
    have : i < (hi - lo).toNat := by simpa only [rangeD, List.length_map, List.length_range] using this
    exact this
  stops := fun ι' H' S st r hh => by
    show (hi - lo).toNat ≤ (rangeD lo hi).length
    simp [rangeD]
  yields := fun i ι' H' S x H2 d hd st r hh y => by
    obtain ⟨rfl, h1⟩ := y
    have hd : (rangeD lo hi)[i]? = some d := hd
    unfold rangeD at hd
    rw [List.getElem?_map] at hd
    obtain ⟨j, h2, h3⟩ := Option.map_eq_some_iff.mp hd
    have h4 := (List.getElem?_eq_some_iff.mp h2)
    obtain ⟨h5, h6⟩ := h4
    rw [List.getElem_range] at h6
    subst h6
    subst h3
    exact ⟨fun _ _ h => h, by simp [RV, h1]⟩
/-- what is to be walked by its value -/
theorem seq_ok {S0 S1 : Sto} {H0 : Hp} {ι0 : Pls} {v : D} {x : V} {W : WX} {σ : St} {R : It → Hp → Prop} (r0 : RS K cl m H0 ι0 S0) (st : Step ι0 H0 ι H) (r : RS K cl m H ι S1) (hv : RV K H ι v x) (h : PstI K cl m W σ ι0 H0 (wkSeq S0 v S1) R) :
    (∃ a, x = .ref a ∧ (∃ xs, SqL K H a xs) ∧ R (Itl K a) H) ∨ (∃ a, x = .ref a ∧ (∃ xs, SqT K H a xs) ∧ R (Itt K a) H) ∨ ∃ z, x = .str z ∧ R (Its z) H := by
  cases v with
  | tup ds =>
    obtain ⟨a, vs, rfl, h1, h2⟩ := rv_tup hv
    exact .inr (.inl ⟨a, rfl, ⟨vs, h1⟩, h _ H ι st r (wlk_tup h1 h2)⟩)
  | str z =>
    rw [rv_str hv]
    exact .inr (.inr ⟨z, rfl, h _ H ι st r wlk_str⟩)
  | ref l =>
    obtain ⟨⟨a, b⟩, rfl, ha⟩ := rv_ref hv
    simp only [wkSeq] at h
    cases hs : S1[l]? with
    | none => rw [hs] at h; exact h.elim
    | some o =>
      rw [hs] at h
      cases o with
      | lst ds =>
        obtain ⟨hb, vs, h1, h2⟩ := r.lst ha hs
        simp only at hb
        subst hb
        refine .inl ⟨a, rfl, ⟨vs, SqL.of h1⟩, ?_⟩
        simp only at h
        split at h
        · rename_i hc
          obtain ⟨c1, c2, c3, c4⟩ := hc
          have q := RS.take (n := S0.length) r (low_old (H' := H) (ι' := ι) r0 c4)
          have e : ι.take S0.length = ι0 := by
            rw [← r0.len]
            exact Step.cut (S := S0) st
          rw [e] at q
          have st2 : Step ι0 H0 ι0 H := ⟨⟨[], by simp⟩, fun _ _ h => .inl (List.getElem?_eq_some_iff.mp h).1, st.keep, st.there⟩
          have rv2 := RVs.takeL h2 c2
          rw [e] at rv2
          refine h _ H ι0 st2 q (wlk_free h1 (fun mm => ?_) rv2)
          obtain ⟨j, hj, hq⟩ := List.getElem_of_mem mm
          have e1 : ι[j]? = some (a, true) := st.get (by rw [List.getElem?_eq_getElem hj, hq])
          have := r.nd j l a e1 ha
          have h0 := r0.len
          omega
        · exact h _ H ι st r (wlk_list ha)
      | rls ds =>
        obtain ⟨_, vs, h1, h2⟩ := r.at_ l _ _ ha hs
        exact .inl ⟨a, rfl, ⟨vs, h1.seq⟩, h _ H ι st r (wlk_list ha)⟩
      | _ => exact h.elim
  | _ => exact h.elim
end
end WL
end
section
set_option Elab.async false
set_option linter.all false
set_option maxRecDepth 100000
set_option maxHeartbeats 4000000
/-! WH: methods, isinstance, fields. -/
namespace WL
open PySem L2
section
variable {X : Cx} {cl : Cl} {m : Md}
/-! ### list methods -/
def rM (K : PySem.W.Frag) (cl : Cl) (m : Md) (W : WX) (f : D → List D → Sto → Res D) : V → List V → Hp → VK → Prop := fun x xs H Q => ∃ d ds S ι σ, RS K cl m H ι S ∧ RV K H ι d x ∧ RVs K H ι ds xs ∧ PstE K cl m W σ ι H (f d ds S) Q
theorem one_of {vs : List V} {ds : List D} {K : PySem.W.Frag} {H : Hp} {ι : Pls} {y : D} (h : RVs K H ι [y] vs) : ∃ v, vs = [v] ∧ RV K H ι y v := one_rv h
theorem lst_put {K : PySem.W.Frag} {W : WX} {σ : St} {ι : Pls} {H : Hp} {S : Sto} {Q : VK} {l : Nat} {a : Addr} {ds ds' : List D} {vs vs' : List V} {d : D} {v : V} (hS : RS K cl m H ι S) (h1 : ι[l]? = some (a, true)) (h2 : S[l]? = some (.lst ds)) (h3 : H a = some (.lst vs))
    (r : RVs K H ι ds' vs') (rv : RV K H ι d v) (hp : PstE K cl m W σ ι H (.ok d (S.set l (.lst ds'))) Q) : Q v (upd H a (.lst vs')) := by
  have st : Step ι H ι (upd H a (.lst vs')) := Step.write h1 h3 rfl
  exact hp v _ ι st (hS.write (o' := .lst ds') h1 h2 h3 rfl rfl ⟨vs', upd_same, RVs.step st _ _ r⟩) (RV.step st _ _ rv)
theorem snd_append {W : WX} : MtR X "list.append" (rM X.K cl m W mAppend) := by
  intro pins s σ H x xs v us Q I rx rs h
  obtain ⟨d, ds, S, ι, σ', hS, hd, hds, hp⟩ := h
  refine mt_append pins s σ H x xs v us Q I rx rs ?_
  cases d with
  | ref l =>
    cases ds with
    | nil => exact hp.elim
    | cons y r =>
      cases r with
      | nil =>
        simp only [mAppend] at hp
        split at hp
        · rename_i es he
          obtain ⟨hz, hp⟩ := Pst.ite hp
          obtain ⟨a, vs, rfl, h1, h2, h3⟩ := lst_at hS hd he
          obtain ⟨w, rfl, hw⟩ := one_rv hds
          refine ⟨a, vs, w, rfl, rfl, h2, by rw [← RVs.length h3]; exact hz, ?_⟩
          exact lst_put (W := W) (σ := σ') hS h1 he h2 (RVs.append h3 (rvs_cons hw rvs_nil)) (by simp [RV]) hp
        · exact hp.elim
      | cons _ _ => exact hp.elim
  | _ => exact hp.elim
theorem snd_pop0 {W : WX} : MtR X "list.pop" (rM X.K cl m W mPop0) := by
  intro pins s σ H x xs v us Q I rx rs h
  obtain ⟨d, ds, S, ι, σ', hS, hd, hds, hp⟩ := h
  refine mt_pop pins s σ H x xs v us Q I rx rs ?_
  cases d with
  | ref l =>
    cases ds with
    | cons y r => exact hp.elim
    | nil =>
      simp only [mPop0] at hp
      split at hp
      · rename_i es he
        obtain ⟨a, vs, rfl, h1, h2, h3⟩ := lst_at hS hd he
        have := rvs_nil' hds
        subst this
        split at hp
        · rename_i y hy
          obtain ⟨w, hw, rw'⟩ := RVs.get h3 hy
          refine ⟨a, vs, w, rfl, rfl, h2, by rw [← RVs.length h3]; exact hw, ?_⟩
          exact lst_put (W := W) (σ := σ') hS h1 he h2 (RVs.dropLast h3) rw' hp
        · exact hp.elim
      · exact hp.elim
  | _ => exact hp.elim
theorem snd_pop1 {W : WX} : MtR X "list.pop" (rM X.K cl m W mPop1) := by
  intro pins s σ H x xs v us Q I rx rs h
  obtain ⟨d, ds, S, ι, σ', hS, hd, hds, hp⟩ := h
  refine mt_popAt pins s σ H x xs v us Q I rx rs ?_
  cases d with
  | ref l =>
    cases ds with
    | nil => exact hp.elim
    | cons y r =>
      cases r with
      | cons _ _ =>
        cases y <;> exact hp.elim
      | nil =>
        cases y with
        | int i =>
          simp only [mPop1] at hp
          split at hp
          · rename_i es he
            obtain ⟨a, vs, rfl, h1, h2, h3⟩ := lst_at hS hd he
            obtain ⟨u, rfl, hu⟩ := one_rv hds
            obtain ⟨⟨hz1, hz2⟩, hp⟩ := Pst.ite hp
            split at hp
            · rename_i k hk
              split at hp
              · rename_i y hy
                obtain ⟨w, hw, rw'⟩ := RVs.get h3 hy
                refine ⟨a, vs, i, k, w, rfl, by rw [rv_int hu], h2, hz1, hz2, by rw [← RVs.length h3]; exact hk, hw, ?_⟩
                exact lst_put (W := W) (σ := σ') hS h1 he h2 (RVs.erase k h3) rw' hp
              · exact hp.elim
            · exact hp.elim
          · exact hp.elim
        | _ => exact hp.elim
  | _ => exact hp.elim
end
/-! ### isinstance of an exception -/
end WL
namespace WL
open PySem PySem.Spec PySem.Calls PyProof.Rows PySem.W
section
variable {prog : Program} {w : World} {A : Around} {E : Value → Shared → Prop} {s : Shared} {K : Frag} {x D : Addr} {ox : Obj} {od : Option Obj}
theorem findObj_cls {name : Str} {a g : Value} (hc : (clsIn K D).isSome = true) (ha : findIn K (.ref D) name = some (some a)) (hg : specialIn K a "__get__" = some (some g)) (ht : takesIn K a = some true) : findObj K D od name = some (.bind g a) := by
  cases od with
  | none => exact PySem.W.findObj_dataN hc ha hg ht
  | some od => exact PySem.W.findObj_data hc ha hg ht
theorem exw_class {Q : Option Value → Shared → Prop} (T : ExW K D) (X : K.In s.heap) (I : InstAt s.heap x ox D od) (h : Q (some (.ref D)) { s with toks := s.toks + 1 }) : wpAny (model prog w) A (getAttr? (.ref x) "__class__") Q E s := by
  have hf : findObj K D od "__class__" = some (.bind (.builtin "getset_descriptor.__get__") (.builtin "object.__class__")) := findObj_cls (by obtain ⟨cd, hc, _⟩ := any_some T.dct; rw [hc]; rfl) T.ca T.cn T.ct
  obtain ⟨hp, gs, dr, tk, os⟩ := s
  have ty := I.type (M := model prog w)
  have l1 := looks_findIn (M := model prog w) X T.ga
  have l2 := looks_findIn (M := model prog w) X T.gt
  have l3 := looks_find (M := model prog w) X I hf
  have isx : Looks (model prog w) hp (isInstance (.ref x) (.type "BaseException")) true := ty.andThen (looks_subIn X T.sub)
  have n1 : (Value.builtin "BaseException.__getattribute__" == Value.builtin "object.__getattribute__") = false := by decide +kernel
  have n2 : (onTheHeap (Value.ref D) && Value.builtin "BaseException.__getattribute__" == Value.builtin "object.__getattribute__") = false := by rw [n1]; rfl
  have n0 : (false && onTheHeap (Value.builtin "BaseException.__getattribute__")) = false := rfl
  unfold getAttr? getAttrBy? getAttrBy
  refine wpAny_bind (wpAny_mkText (wpAny_bind (wpAny_attempt (wpAny_holding (wpAny_bind (ty.at (wpAny_bind (l1.at ?_))))))))
  show wpAny _ _ (if (onTheHeap (Value.ref D) && Value.builtin "BaseException.__getattribute__" == Value.builtin "object.__getattribute__") = true then _ else _) _ _ _
  rw [n2, if_neg Bool.false_ne_true]
  unfold getAttrByItsOwn hookBefore
  refine wpAny_bind ?_
  rw [if_pos (show onTheHeap (Value.ref D) = true from rfl)]
  refine l2.at (wpAny_bind (wpAny_attempt (wpAny_holding ?_)))
  unfold callGetattribute
  rw [n0, if_neg Bool.false_ne_true]
  unfold boundAndCalled
  rw [PySem.F.excAttr_ValueError.ga.bind (.ref x)]
  refine wpAny_bind (wpAny_pure ?_)
  show wpAny _ _ (call (.builtin "BaseException.__getattribute__") [.ref x, .str "__class__" tk]) _ _ _
  refine wpAny_call (codeAny_call_builtin PySem.F.excAttr_ValueError.ga.plain PySem.F.entry_bexc_ga ?_)
  refine @check_slot (model prog w) _ _ ⟨hp, gs, dr, tk + 1, os⟩ "BaseException.__getattribute__" "BaseException" "__getattribute__" (.ref x) [.str "__class__" tk] [] _ (by decide +kernel) (by decide +kernel) isx (PySem.F.args_bexc_ga (.ref x) (.str "__class__" tk)) ?_
  unfold Builtin.«object.__getattribute__»
  refine wpAny_bind (wpAny_of_eq (a := ((Value.ref x : Value), [Value.str "__class__" tk])) (by first | rfl | (simp only [slotArgs]; rfl)) ?_)
  refine wpAny_bind (wpAny_pure (wpAny_bind (ty.at (wpAny_bind (l3.at ?_)))))
  show wpAny _ _ (holding [Value.builtin "object.__class__"] (call (.builtin "getset_descriptor.__get__") [.builtin "object.__class__", .ref x, .ref D]) >>= ret) _ _ _
  refine wpAny_bind (wpAny_holding (wpAny_call (class_get (s := ⟨hp, gs, dr, tk + 1, os⟩) (ox := ox) (od := od) X I T.cm ?_)))
  refine wpAny_pure ?_
  show wpAny _ _ (handedOut (.ref D)) _ _ _
  rw [handedOut_of (v := .ref D) rfl]
  first
    | exact wpAny_pure (wpAny_pure h)
    | exact wpAny_pure h
    | exact wpAny_pure (wpAny_bind (wpAny_pure (wpAny_pure h)))
theorem exw_kit (T : ExW K D) : KitX K (.ref x) (.ref D) (fun h => InstAt h x ox D od) where
  ty := fun _ _ _ I => I.type
  it := fun _ _ X _ => by
    obtain ⟨cd, hc, _⟩ := any_some T.dct
    unfold clsIn at hc
    split at hc
    · rename_i c' d' cd' sl' ho
      intro A' Q' E' s' k q
      unfold isType loadHead
      exact wpAny_bind (wpAny_loadPart (k _ _ (X _ _ ho)) (wpAny_pure q))
    · cases hc
  ne := fun h tp dd its n sl X htp => by
    obtain ⟨cd, hc, _⟩ := any_some T.dct
    refine Bool.eq_false_iff.mpr fun q => ?_
    obtain rfl : D = tp := Value.ref.inj (beq_iff_eq.mp q)
    unfold clsIn at hc
    split at hc
    · rename_i c' d' cd' sl' ho
      cases (X _ _ ho).symm.trans htp
    · cases hc
  ca := fun X I k => exw_class T X I k
end
end WL
namespace WL
open PySem L2
section
variable {pg : Pg} {cl : Cl} {ck : Ck} {m : Md} {k : Nat} {call : Str → List D → Sto → Res D} {sc : Sc} {W : WX} {X : Cx}
theorem px_inst {pins : List (Addr × Obj)} {σ : St} {H : Hp} {ι : Pls} {s : Shared} {a : Addr} {c : Str} {d : Option Addr} {fs : List (Str × D)} (mo : ModeX cl (some (a, c, d)) X) (I : Inv X pins σ H s) (rx : RX X.K H ι fs d) :
    ∃ oe od, PySem.W.InstAt s.heap a oe (cl c) od := by
  obtain ⟨oe, vs, h1, h2, h3, h4⟩ := mo
  have q := I.pin (a, oe) (List.mem_append_left _ h2)
  have nc : PySem.W.notCls oe = true := by
    unfold PySem.W.notCls
    rw [h4] <;> rfl
  rcases rx with ⟨_, rfl⟩ | ⟨da, gs, rfl, e2, _⟩
  · refine ⟨oe, none, q.1, h3.1, nc, ?_⟩
    rw [h3.2.1]
    trivial
  · obtain ⟨mA, hns, hr⟩ := (show ObjOk X.prog X.w H s.heap da (.xd gs) from I.hok da _ e2)
    obtain ⟨od, ho, hl⟩ := lookIn_ns hns
    exact ⟨oe, some od, q.1, h3.1, nc, by rw [h3.2.1]; exact ho⟩
theorem tyx_tup {K : PySem.W.Frag} {H : Hp} {a : Addr} {vs : List V} (h : SqT K H a vs) : TyX K H (.ref a) (.type "tuple") := by
  rcases h with (h | ⟨o, h⟩) | ⟨o, its, n, h1, h2, _⟩
  · exact .base (.tup h)
  · exact .fTuple h
  · exact .kTuple h1 h2
theorem tyx_rls {K : PySem.W.Frag} {H : Hp} {a : Addr} {vs : List V} (h : SqR K H a vs) : TyX K H (.ref a) (.type "list") := by
  rcases h with ⟨o, h⟩ | ⟨o, its, n, h1, h2, _⟩
  · exact .base (.frz h)
  · exact .kList h1 h2
def rI1 (pg : Pg) (cl : Cl) (ck : Ck) (K : PySem.W.Frag) (m : Md) : List V → Hp → VK → Prop := fun xs H Q => ∃ d c S ι v cv cu b, xs = [v, cv] ∧ clsV cl ck c = some (cv, cu) ∧ RS K cl m H ι S ∧ RV K H ι d v ∧ isiD pg S d c = some b ∧ Q (.bl b) H
theorem clsV_ty {c : Str} {v : V} {u : Value} (hn : ck.cls.contains c = false) (h : clsV cl ck c = some (v, u)) : ∃ n, tyN c = some n ∧ v = .ty n ∧ u = .type n := by
  unfold clsV at h
  rw [if_neg (by rw [hn]; decide)] at h
  obtain ⟨n, h1, h2⟩ := Option.map_eq_some_iff.mp h
  cases h2
  exact ⟨n, h1, rfl, rfl⟩
theorem kit_lit {K : PySem.W.Frag} {t : String} {c : Str} {n : String} {b : Bool} (h1 : tyN c = some n) (h : (if c = "int" then kitB t "int" else if c = "bool" then kitB t "bool" else if c = "str" then kitB t "str" else if c = "tuple" then kitB t "tuple" else none) = some b) :
    PySem.W.kitOne K (.type t) (.type n) = some b := by
  unfold tyN at h1
  split at h1
  · cases h1
    rw [if_pos ‹_›] at h
    exact kit_ty h
  · rw [if_neg ‹_›] at h
    split at h1
    · cases h1
      rw [if_pos ‹_›] at h
      exact kit_ty h
    · rw [if_neg ‹_›] at h
      split at h1
      · cases h1
        rw [if_pos ‹_›] at h
        exact kit_ty h
      · rw [if_neg ‹_›] at h
        split at h1
        · cases h1
          rw [if_pos ‹_›] at h
          exact kit_ty h
        · rw [if_neg ‹_›] at h
          cases h
/-- the table of the built-in types -/
def isT (t : String) (c : Str) : Option Bool := if c = "int" then kitB t "int" else if c = "bool" then kitB t "bool" else if c = "str" then kitB t "str" else if c = "tuple" then kitB t "tuple" else none
theorem isT_int {t : String} : isT t "int" = kitB t "int" := by
  unfold isT
  rw [if_pos rfl]
theorem isT_bool {t : String} : isT t "bool" = kitB t "bool" := by
  unfold isT
  rw [if_neg (by decide), if_pos rfl]
theorem isT_str {t : String} : isT t "str" = kitB t "str" := by
  unfold isT
  rw [if_neg (by decide), if_neg (by decide), if_pos rfl]
theorem isT_tup {t : String} : isT t "tuple" = kitB t "tuple" := by
  unfold isT
  rw [if_neg (by decide), if_neg (by decide), if_neg (by decide), if_pos rfl]
theorem kit_tab : kitB "NoneType" "int" = some false ∧ kitB "NoneType" "bool" = some false ∧ kitB "NoneType" "str" = some false ∧ kitB "NoneType" "tuple" = some false ∧
    kitB "bool" "int" = some true ∧ kitB "bool" "bool" = some true ∧ kitB "bool" "str" = some false ∧ kitB "bool" "tuple" = some false ∧
    kitB "int" "int" = some true ∧ kitB "int" "bool" = some false ∧ kitB "int" "str" = some false ∧ kitB "int" "tuple" = some false ∧
    kitB "str" "int" = some false ∧ kitB "str" "bool" = some false ∧ kitB "str" "str" = some true ∧ kitB "str" "tuple" = some false ∧
    kitB "tuple" "int" = some false ∧ kitB "tuple" "bool" = some false ∧ kitB "tuple" "str" = some false ∧ kitB "tuple" "tuple" = some true ∧
    kitB "list" "int" = some false ∧ kitB "list" "bool" = some false ∧ kitB "list" "str" = some false ∧ kitB "list" "tuple" = some false := by decide +kernel
theorem call_isW (O : XOk pg cl ck m k call sc W X) (hno : ∀ c : Str, (c = "int" ∨ c = "bool" ∨ c = "str" ∨ c = "tuple") → ck.cls.contains c = false) : CallR X (.builtin "isinstance") (rI1 pg cl ck X.K m) := by
  intro pins s σ H xs us Q I r h
  obtain ⟨d, c, S, ι, v, cv, cu, b, rfl, hc, hS, hd, hb, hq⟩ := h
  obtain ⟨n1, n2, n3, n4, b1, b2, b3, b4, i1, i2, i3, i4, s1, s2, s3, s4, t1, t2, t3, t4, l1, l2, l3, l4⟩ := kit_tab
  have plain : ∀ {t : String}, TyX X.K H v (.type t) → (c = "int" ∨ c = "bool" ∨ c = "str" ∨ c = "tuple") → isT t c = some b → wpAny (model X.prog X.w) X.A (PySem.call (.builtin "isinstance") us) (EP X pins σ Q) X.xe s := fun {t} ty hcc e => by
    obtain ⟨n, h1, h2, h3⟩ := clsV_ty (hno c hcc) hc
    subst h2 h3
    exact call_isi pins s σ H _ us Q I r ⟨v, _, .type t, .type n, b, rfl, .ty n, ty, kit_lit h1 e, hq⟩
  cases d with
  | non =>
    have e := rv_non hd
    subst e
    simp only [isiD] at hb
    split at hb
    · rename_i hcc
      cases hb
      refine plain (.base .non) hcc ?_
      rcases hcc with rfl | rfl | rfl | rfl <;> first | (rw [isT_int]; assumption) | (rw [isT_bool]; assumption) | (rw [isT_str]; assumption) | (rw [isT_tup]; assumption)
    · cases hb
  | bl y =>
    have e := rv_bl hd
    subst e
    simp only [isiD] at hb
    split at hb
    · rename_i hcc
      cases hb
      refine plain (.base (.bl y)) (by rcases hcc with h | h <;> simp [h]) ?_
      rcases hcc with rfl | rfl <;> first | (rw [isT_int]; assumption) | (rw [isT_bool]; assumption) | (rw [isT_str]; assumption) | (rw [isT_tup]; assumption)
    · split at hb
      · rename_i hcc
        cases hb
        refine plain (.base (.bl y)) (by rcases hcc with h | h <;> simp [h]) ?_
        rcases hcc with rfl | rfl <;> first | (rw [isT_int]; assumption) | (rw [isT_bool]; assumption) | (rw [isT_str]; assumption) | (rw [isT_tup]; assumption)
      · cases hb
  | int y =>
    have e := rv_int hd
    subst e
    simp only [isiD] at hb
    split at hb
    · rename_i hcc
      cases hb
      refine plain (.base (.int y)) (by simp [hcc]) ?_
      subst hcc
      first | (rw [isT_int]; assumption) | (rw [isT_bool]; assumption) | (rw [isT_str]; assumption) | (rw [isT_tup]; assumption)
    · split at hb
      · rename_i hcc
        cases hb
        refine plain (.base (.int y)) (by rcases hcc with h | h | h <;> simp [h]) ?_
        rcases hcc with rfl | rfl | rfl <;> first | (rw [isT_int]; assumption) | (rw [isT_bool]; assumption) | (rw [isT_str]; assumption) | (rw [isT_tup]; assumption)
      · cases hb
  | str y =>
    have e := rv_str hd
    subst e
    simp only [isiD] at hb
    split at hb
    · rename_i hcc
      cases hb
      refine plain (.base (.str y)) (by simp [hcc]) ?_
      subst hcc
      first | (rw [isT_int]; assumption) | (rw [isT_bool]; assumption) | (rw [isT_str]; assumption) | (rw [isT_tup]; assumption)
    · split at hb
      · rename_i hcc
        cases hb
        refine plain (.base (.str y)) (by rcases hcc with h | h | h <;> simp [h]) ?_
        rcases hcc with rfl | rfl | rfl <;> first | (rw [isT_int]; assumption) | (rw [isT_bool]; assumption) | (rw [isT_str]; assumption) | (rw [isT_tup]; assumption)
      · cases hb
  | tup ds =>
    obtain ⟨a, vs, rfl, h1, h2⟩ := rv_tup hd
    simp only [isiD] at hb
    split at hb
    · rename_i hcc
      cases hb
      refine plain (tyx_tup h1) (by simp [hcc]) ?_
      subst hcc
      first | (rw [isT_int]; assumption) | (rw [isT_bool]; assumption) | (rw [isT_str]; assumption) | (rw [isT_tup]; assumption)
    · split at hb
      · rename_i hcc
        cases hb
        refine plain (tyx_tup h1) (by rcases hcc with h | h | h <;> simp [h]) ?_
        rcases hcc with rfl | rfl | rfl <;> first | (rw [isT_int]; assumption) | (rw [isT_bool]; assumption) | (rw [isT_str]; assumption) | (rw [isT_tup]; assumption)
      · cases hb
  | ref l =>
    obtain ⟨p, rfl, hp⟩ := rv_ref hd
    simp only [isiD] at hb
    cases hs : S[l]? with
    | none => rw [hs] at hb; cases hb
    | some o =>
      rw [hs] at hb
      obtain ⟨z1, z⟩ := hS.at_ l p o hp hs
      cases o with
      | lst ds =>
        simp only at hb
        obtain ⟨vs, h1, _⟩ := z
        split at hb
        · rename_i hcc
          cases hb
          refine plain (.base (.lst h1)) hcc ?_
          rcases hcc with rfl | rfl | rfl | rfl <;> first | (rw [isT_int]; assumption) | (rw [isT_bool]; assumption) | (rw [isT_str]; assumption) | (rw [isT_tup]; assumption)
        · cases hb
      | rls ds => cases hb
      | ins c fs => cases hb
      | exc kx fs =>
        simp only at hb
        split at hb
        · rename_i hcc
          cases hb
          obtain ⟨dd, e, rx⟩ := z
          have X1 := (O.exa _ (O.exk _ _ _ e)).1
          have mo := O.mode
          rw [e] at mo
          obtain ⟨oe, od, J⟩ := px_inst mo I rx
          obtain ⟨u1, u2, rfl, r1, r2⟩ := vals2 r
          cases (show u1 = Value.ref p.1 from r1)
          have e2 : u2 = cu := by
            unfold clsV at hc
            split at hc
            · cases hc
              exact r2
            · obtain ⟨n, _, h2⟩ := Option.map_eq_some_iff.mp hc
              cases h2
              exact r2
          subst e2
          exact PySem.W.kia_one (exw_kit X1.ex) I.kIn J (X1.is_ c _ _ hc hcc) (fun z => nomatch z) fun tk => ⟨.bl _, H, I.tok tk, rfl, hq⟩
        · cases hb
/-! ### an exception's field -/
def noCall : Expr → Bool
  | .Call .. => false
  | _ => true
theorem base_of {e : Expr} {n : Str} {env : Env} {w : Sem Value} (h : noCall e = true) : attributeBase e n env w = w := by
  cases e <;> first | rfl | cases h
theorem RF.get {K : PySem.W.Frag} {H : Hp} {ι : Pls} {f : Str} {d : D} : ∀ {fs : List (Str × D)} {gs : List (Str × V)}, RF K H ι fs gs → fs.lookup f = some d → ∃ v, gs.lookup f = some v ∧ RV K H ι d v
  | [], _, _, e => by simp at e
  | (x, d0) :: ds, gs, h, e => by
    simp only [RF] at h
    obtain ⟨v, r, rfl, q, t⟩ := h
    simp only [List.lookup_cons] at e ⊢
    cases hx : f == x with
    | true =>
      rw [hx] at e
      cases e
      exact ⟨v, rfl, q⟩
    | false =>
      rw [hx] at e
      exact RF.get t e
theorem pe_fldW (O : XOk pg cl ck m k call sc W X) {e : Expr} {n : Str} {pos : Pos} {r : Ro → Sto → Res D} (he : PE X e (tE X.K cl m W r)) (hb : noCall e = true) (hn : n ∈ ck.flds) :
    PE X (.Attribute e n pos) (tE X.K cl m W fun ρ S => (r ρ S).bind fun x S => Res.of (fldD S x n) S) := by
  refine ⟨fun pins s σ H Q I h => ?_⟩
  obtain ⟨ρ, S, ι, g, hp⟩ := h
  refine attr_of (base_of hb) (thn (he.run pins s σ H (fun x H1 => ∃ d S1 ι1, RS X.K cl m H1 ι1 S1 ∧ RV X.K H1 ι1 d x ∧ PstE X.K cl m W σ ι1 H1 (Res.of (fldD S1 d n) S1) Q) I ⟨ρ, S, ι, g, ?_⟩) fun u s1 hh => ?_)
  · exact Pst.of_bind hp fun d S1 v H1 ι1 _ _ rs rv q => ⟨d, S1, ι1, rs, rv, q⟩
  obtain ⟨x, H1, I1, rx, d, S1, ι1, rs, rv, q⟩ := hh
  obtain ⟨b, hb2, q2⟩ := Pst.of q
  cases d with
  | ref l =>
    simp only [fldD] at hb2
    obtain ⟨p, rfl, hp2⟩ := rv_ref rv
    cases hs : S1[l]? with
    | none => rw [hs] at hb2; cases hb2
    | some o =>
      rw [hs] at hb2
      obtain ⟨z1, z⟩ := rs.at_ l p o hp2 hs
      cases o with
      | exc kx fs =>
        simp only at hb2
        obtain ⟨dd, e2, rx2⟩ := z
        have X1 := (O.exa _ (O.exk _ _ _ e2)).1
        have mo := O.mode
        rw [e2] at mo
        obtain rfl : u = Value.ref p.1 := rx
        obtain ⟨oe, vs, h1, h2, h3, h4⟩ := mo
        have qa := I1.pin (p.1, oe) (List.mem_append_left _ h2)
        rcases rx2 with ⟨rfl, _⟩ | ⟨da, gs, rfl, e3, rf⟩
        · simp at hb2
        · obtain ⟨v, hl, hv⟩ := RF.get rf hb2
          obtain ⟨mA, hns, hr⟩ := (show ObjOk X.prog X.w H1 s1.heap da (.xd gs) from I1.hok da _ e3)
          obtain ⟨od, ho, hl2⟩ := lookIn_ns hns
          obtain ⟨w, hw, rw'⟩ := RelO.some_of (v := v) (o := mA n) (by rw [← hl]; exact hr n)
          have J : PySem.W.InstAt s1.heap p.1 oe (cl kx) (some od) := ⟨qa.1, h3.1, by unfold PySem.W.notCls; rw [h4] <;> rfl, by rw [h3.2.1]; exact ho⟩
          exact HandSPX.exc_get I1.kIn J X1.ex.ga X1.ex.gt X1.ex.sub (PySem.W.findObj_own X1.ex.dct (X1.no n hn) rfl (by rw [hl2, hw])) (handed_of rw') ⟨v, H1, I1.tok _, rw', Pst.here q2 rs hv⟩
      | _ => cases hb2
  | _ => cases hb2
end
end WL
end
section
set_option Elab.async false
set_option linter.all false
set_option maxRecDepth 100000
set_option maxHeartbeats 4000000
/-! WI: comprehensions. -/
namespace WL
open PySem L2
section
variable {K : PySem.W.Frag} {cl : Cl} {m : Md} {H : Hp} {ι : Pls} {S : Sto}
theorem RV.more {p : Addr × Bool} {d : D} {v : V} (h : RV K H ι d v) : RV K H (ι ++ [p]) d v := RV.kp ⟨fun l q e => by rw [List.getElem?_append_left (List.getElem?_eq_some_iff.mp e).1]; exact e, fun _ _ e _ => e⟩ d v h
theorem RVs.more {p : Addr × Bool} {d : List D} {v : List V} (h : RVs K H ι d v) : RVs K H (ι ++ [p]) d v := RVs.kp ⟨fun l q e => by rw [List.getElem?_append_left (List.getElem?_eq_some_iff.mp e).1]; exact e, fun _ _ e _ => e⟩ d v h
/-- a list that stands becomes a place -/
theorem RS.adopt {a : Addr} {ds : List D} {vs : List V} (r : RS K cl m H ι S) (h : H a = some (.lst vs)) (nm : (a, true) ∉ ι) (rv : RVs K H ι ds vs) : RS K cl m H (ι ++ [(a, true)]) (S ++ [.lst ds]) := by
  have kp : Kp ι H (ι ++ [(a, true)]) H := ⟨fun l q e => by rw [List.getElem?_append_left (List.getElem?_eq_some_iff.mp e).1]; exact e, fun _ _ e _ => e⟩
  have tail : ∀ {l : Nat} {p : Addr × Bool}, (ι ++ [(a, true)])[l]? = some p → ι[l]? = some p ∨ (l = ι.length ∧ p = (a, true)) := fun {l p} e1 => by
    by_cases hl : l < ι.length
    · rw [List.getElem?_append_left hl] at e1
      exact .inl e1
    · have h1 := (List.getElem?_eq_some_iff.mp e1).1
      simp only [List.length_append, List.length_singleton] at h1
      have : l = ι.length := by omega
      subst this
      simp at e1
      exact .inr ⟨rfl, e1.symm⟩
  refine ⟨by simp [r.len], fun l k b e1 e2 => ?_, fun l p o e1 e2 => ?_⟩
  · rcases tail e1 with p1 | ⟨p1, p2⟩ <;> rcases tail e2 with q1 | ⟨q1, q2⟩
    · exact r.nd l k b p1 q1
    · have : b = a := congrArg (·.1) q2
      rw [this] at p1
      exact absurd (List.mem_of_getElem? p1) nm
    · have : b = a := congrArg (·.1) p2
      rw [this] at q1
      exact absurd (List.mem_of_getElem? q1) nm
    · rw [p1, q1]
  · rcases tail e1 with p1 | ⟨p1, p2⟩
    · have hl := (List.getElem?_eq_some_iff.mp p1).1
      rw [List.getElem?_append_left (by rw [← r.len]; exact hl)] at e2
      obtain ⟨z1, z2⟩ := r.at_ l p o p1 e2
      exact ⟨z1, RO.kp kp (fun _ e => e) o z2⟩
    · subst p1
      rw [r.len] at e2
      simp at e2
      subst e2
      subst p2
      exact ⟨rfl, vs, h, RVs.more rv⟩
theorem wipe_wipe {σ : L2.St} {vs : List Nat} : ∀ {ws : List Nat}, (∀ i ∈ ws, i ∈ vs) → wipe (wipe σ ws) vs = wipe σ vs
  | [], _ => rfl
  | i :: ws, h => by
    show wipe ((wipe σ ws).set i none) vs = _
    rw [wipe_set (h i List.mem_cons_self), wipe_wipe fun j hj => h j (List.mem_cons_of_mem _ hj)]
theorem compL_held {hold : Sto → Prop} {turn : D → Sto → Res (Option D)} {l : List D} {S Sf : Sto} {r : List D} (h : compL hold turn l S = .ok r Sf) : hold S := by
  cases l with
  | nil =>
    unfold compL at h
    split at h
    · assumption
    · cases h
  | cons x l =>
    unfold compL at h
    split at h
    · assumption
    · cases h
theorem compL_nil {hold : Sto → Prop} {turn : D → Sto → Res (Option D)} {S Sf : Sto} {r : List D} (h : compL hold turn [] S = .ok r Sf) : r = [] ∧ Sf = S := by
  unfold compL at h
  split at h
  · cases h
    exact ⟨rfl, rfl⟩
  · cases h
theorem compL_cons {hold : Sto → Prop} {turn : D → Sto → Res (Option D)} {x : D} {l : List D} {S Sf : Sto} {r : List D} (h : compL hold turn (x :: l) S = .ok r Sf) :
    ∃ o S1 ds, turn x S = .ok o S1 ∧ compL hold turn l S1 = .ok ds Sf ∧ r = (match o with
      | some d => d :: ds
      | none => ds) := by
  unfold compL at h
  split at h
  · split at h
    · rename_i o S1 h1
      split at h
      · rename_i ds S2 h2
        cases h
        exact ⟨o, S1, ds, h1, h2, rfl⟩
      · cases h
    · cases h
  · cases h
/-- a turn of a comprehension -/
noncomputable def turnC (t : Tg) (own : List Nat) (rt : Ro → Sto → Res Bool) (re : Ro → Sto → Res D) (ρ : Ro) : D → Sto → Res (Option D) := fun x S => match putT t x (kill own ρ) with
  | some ρ1 => (rt ρ1 S).bind fun k S1 => match k with
    | true => (re ρ1 (gc S [] S1)).bind fun d S2 => .ok (some d) (gc S [d] S2)
    | false => .ok none (gc S [] S1)
  | none => .bad
noncomputable def finC : List D → Sto → Res D := fun ds S => if ds.length ≤ sizeLine then .ok (.ref S.length) (S ++ [.lst ds]) else .bad
def WF0 : WX := fun _ _ _ _ => False
/-- the reading of a comprehension from the interpreter's -/
theorem lc_of {W : WX} {σ : L2.St} {Q : VK} {t : Tg} {own : List Nat} (ht : ∀ i ∈ tgIx t, i ∈ own) {ri : Ro → Sto → Res Wk} {rt : Ro → Sto → Res Bool} {re : Ro → Sto → Res D}
    (h : tE K cl m W (fun ρ S => (ri ρ S).bind fun w S1 => (compL w.held (turnC t own rt re ρ) w.items S1).bind finC) σ H Q) :
    tLc (tI K cl m W ri) (gT K t) (tT K cl m WF0 rt) (tE K cl m WF0 re) own σ H Q := by
  obtain ⟨ρ, S, ι, g, hp⟩ := h
  refine ⟨ρ, S, ι, g, ?_⟩
  have hp : PstE K cl m W σ ι H ((ri ρ S).bind fun w S1 => (compL w.held (turnC t own rt re ρ) w.items S1).bind finC) Q := hp
  cases hri : ri ρ S with
  | bad => rw [hri] at hp; exact hp.elim
  | exc c fs S' => rw [hri] at hp; exact hp
  | ok w S1 =>
    rw [hri] at hp
    intro J H1 ι1 st1 rs1 wk D nD
    have hp1 : PstE K cl m W σ ι1 H1 ((compL w.held (turnC t own rt re ρ) w.items S1).bind finC) Q := Pst.step st1 hp
    have walk : Walk J w.items.length (fun H' => ∃ ι' S', Step ι1 H1 ι' H' ∧ RS K cl m H' ι' S' ∧ w.held S') (fun i H' x H2 => J.yld i H' x H2) :=
      ⟨fun i H' hi ⟨ι', S', a, b, c⟩ => wk.goes i ι' H' S' hi a b c, fun H' ⟨ι', S', a, b, c⟩ => wk.stops ι' H' S' a b c, fun _ _ _ _ _ _ y => y⟩
    have hD1 : (D, true) ∉ ι1 := fun mm => by
      obtain ⟨l, hl, q⟩ := List.getElem_of_mem mm
      exact rs1.live (l := l) (a := D) (by rw [List.getElem?_eq_getElem hl, q]) nD
    refine lc_it walk (fun i H' => ∃ ι' S' acc dacc rest Sf, Step ι1 H1 ι' H' ∧ RS K cl m H' ι' S' ∧ (D, true) ∉ ι' ∧ H' D = some (.lst acc) ∧ RVs K H' ι' dacc acc ∧
      compL w.held (turnC t own rt re ρ) (w.items.drop i) S' = .ok rest Sf ∧ PstE K cl m W σ ι1 H1 (finC (dacc ++ rest) Sf) Q) ?_ ?_ ?_ ?_
    · cases hc : compL w.held (turnC t own rt re ρ) w.items S1 with
      | bad => rw [hc] at hp1; exact hp1.elim
      | exc c fs S' =>
        exfalso
        cases hi : w.items with
        | nil =>
          rw [hi] at hc
          unfold compL at hc
          split at hc <;> cases hc
        | cons x l =>
          rw [hi] at hc
          unfold compL at hc
          split at hc
          · split at hc
            · split at hc <;> cases hc
            · cases hc
          · cases hc
      | ok rest Sf =>
        rw [hc] at hp1
        exact ⟨ι1, S1, [], [], rest, Sf, Step.fresh nD, rs1.fresh nD, hD1, upd_same, rvs_nil, by simpa using hc, by simpa using hp1⟩
    · rintro i H' _ ⟨ι', S', acc, dacc, rest, Sf, a1, a2, a3, a4, a5, a6, a7⟩
      exact ⟨ι', S', a1, a2, compL_held a6⟩
    · rintro i x H' H2 hi ⟨ι', S', acc, dacc, rest, Sf, a1, a2, a3, a4, a5, a6, a7⟩ y
      have hget : w.items[i]? = some w.items[i] := List.getElem?_eq_getElem hi
      rw [List.drop_eq_getElem_cons hi] at a6
      obtain ⟨o, S2, ds, b1, b2, b3⟩ := compL_cons a6
      obtain ⟨k1, rv⟩ := wk.yields i ι' H' S' x H2 _ hget a1 a2 (compL_held a6) y
      have s2 : Step ι' H' ι' H2 := Step.same k1
      have a2' := a2.same k1
      unfold turnC at b1
      cases hput : putT t w.items[i] (kill own ρ) with
      | none => rw [hput] at b1; cases b1
      | some ρ1 =>
        rw [hput] at b1
        simp only at b1
        have re0 : RE K H2 ι' (kill own ρ) (wipe σ own) := kill_rel (g.1.step ((st1.trans a1).trans s2)) own
        refine gT_ok re0 rv hput fun σ2 re2 hw => ⟨?_, ?_⟩
        · rw [hw own ht, wipe_wipe fun _ h => h]
        · refine ⟨ρ1, S', ι', ⟨re2, a2'⟩, ?_⟩
          cases hrt : rt ρ1 S' with
          | bad => rw [hrt] at b1; cases b1
          | exc c fs S3 => rw [hrt] at b1; cases b1
          | ok kk S3 =>
            rw [hrt] at b1
            intro kb H3 ι3 st3 rs3 hkb
            obtain rfl : kb = kk := hkb
            obtain ⟨ι4, st4, rs4, _, _⟩ := gc_ok (ds := []) a2' st3 rs3
            have stA : Step ι1 H1 ι4 H3 := (a1.trans s2).trans st4
            have nm2 : H2 D ≠ none := by rw [k1 _ _ a4]; simp
            have e3 : H3 D = some (.lst acc) := st4.keep D _ (k1 _ _ a4) fun _ => a3
            have nm4 : (D, true) ∉ ι4 := st4.nomem nm2 a3
            have r4 : RVs K H3 ι4 dacc acc := RVs.step st4 _ _ (RVs.step s2 _ _ a5)
            cases kb with
            | false =>
              simp only [Bool.false_eq_true, if_false]
              simp only [bind_ok] at b1
              cases b1
              exact ⟨ι4, _, acc, dacc, rest, Sf, stA, rs4, nm4, e3, r4, by rw [b3]; exact b2, a7⟩
            | true =>
              simp only [if_true]
              simp only [bind_ok] at b1
              refine ⟨ρ1, _, ι4, ⟨re2.step st4, rs4⟩, ?_⟩
              cases hre : re ρ1 (gc S' [] S3) with
              | bad => rw [hre] at b1; cases b1
              | exc c fs S5 => rw [hre] at b1; cases b1
              | ok d S5 =>
                rw [hre] at b1
                simp only [bind_ok] at b1
                cases b1
                intro v H4 ι5 st5 rs5 rvd
                obtain ⟨ι6, st6, rs6, q6, _⟩ := gc_ok (ds := [d]) a2' (st4.trans st5) rs5
                have e4 : H4 D = some (.lst acc) := st6.keep D _ (k1 _ _ a4) fun _ => a3
                have nm6 : (D, true) ∉ ι6 := st6.nomem nm2 a3
                have r6 : RVs K H4 ι6 dacc acc := RVs.step st6 _ _ (RVs.step s2 _ _ a5)
                have rd6 := q6 d v List.mem_cons_self rvd
                have kp : Kp ι6 H4 ι6 (L2.upd H4 D (.lst (acc ++ [v]))) := Kp.off e4 rfl
                have a8 := a7
                unfold finC at a8
                obtain ⟨hz, _⟩ := Pst.ite a8
                have hl := RVs.length r6
                subst b3
                refine ⟨acc, e4, ?_, ι6, _, acc ++ [v], dacc ++ [d], ds, Sf, Step.off ((a1.trans s2).trans st6) nD, rs6.off e4 rfl nm6, nm6, upd_same, ?_, b2, ?_⟩
                · simp only [List.length_append, List.length_cons] at hz
                  omega
                · exact RVs.kp kp _ _ (RVs.append r6 (rvs_cons rd6 rvs_nil))
                · rw [List.append_assoc]
                  exact a7
    · rintro H' ⟨ι', S', acc, dacc, rest, Sf, a1, a2, a3, a4, a5, a6, a7⟩
      rw [List.drop_length] at a6
      obtain ⟨rfl, rfl⟩ := compL_nil a6
      unfold finC at a7
      obtain ⟨hz, hp2⟩ := Pst.ite a7
      rw [List.append_nil] at hp2
      refine hp2 (.ref D) H' (ι' ++ [(D, true)]) ⟨?_, fun l p e => ?_, a1.keep, a1.there⟩ (a2.adopt a4 a3 a5) (rv_ref_of (b := true) (by rw [← a2.len]; simp))
      · obtain ⟨tt, e⟩ := a1.pre
        exact ⟨tt ++ [(D, true)], by rw [e, List.append_assoc]⟩
      · by_cases hl : l < ι'.length
        · rw [List.getElem?_append_left hl] at e
          exact a1.new l p e
        · have h1 := (List.getElem?_eq_some_iff.mp e).1
          simp only [List.length_append, List.length_singleton] at h1
          have : l = ι'.length := by omega
          subst this
          simp at e
          subst e
          exact .inr nD
end
end WL
end
section
set_option Elab.async false
set_option linter.all false
set_option maxRecDepth 100000
set_option maxHeartbeats 4000000
/-! WJ: comprehensions while an exception is handled. -/
namespace WL
open PySem PySem.Spec PyProof.Rows L2 L2H
/-- a block's context that keeps the pins -/
abbrev blkH (X : Cx) (s : Shared) (H : Hp) (scope : Scope) (cenv : Env) (fp : List Addr) : Cx := { X.blk s H scope cenv fp with pn := X.pn }
section
variable {X : Cx} {pins : List (Addr × Obj)} {σ : L2.St} {H : Hp} {s : Shared}
theorem blkH_ok {scope : Scope} {cenv : Env} {fp : List Addr} (o : (X.blk s H scope cenv fp).Ok) : (blkH X s H scope cenv fp).Ok :=
  ⟨o.mod, o.kind, o.glob, o.blt, o.above, o.inj, o.has, o.cab, o.hd, o.frames, o.stk, o.exf, o.bs, o.bsz, o.noex, o.exfs, o.funs, o.frf⟩
theorem stk_free (I : Inv X pins σ H s) {p : Addr × Obj} (hp : p ∈ X.pn) : p.1 ∉ frs X.stack := fun hm => by
  have q := I.pin p (List.mem_append_left _ hp)
  rcases List.mem_cons.mp (I.stkSub p.1 hm) with z | z
  · exact q.2.2.1 z
  · exact q.2.2.2.1 z
theorem blkH_start {scope : Scope} {own : List (Str × Nat)} {fp : List Addr} (I : Inv X pins σ H s) (ok : BlkOk X.N X.env.scope scope own) (hN : X.N.Nodup) (hfp : ∀ b ∈ fp, FpOk X pins H b ∧ b < s.heap.objs.size) :
    Inv (blkH X s H scope (compEnvC scope (cellsFrom (s.heap.objs.size + 1) scope.names (cloFrom X.env.cells scope.names [])) s.heap.objs.size X.env) fp) [] (wipe σ (own.map (·.2))) H { s with heap := pushCells (s.heap.push { cls := .type "dict", data := .dict #[] }) scope.names } := by
  have J := block_start I ok hN hfp
  refine ⟨blkH_ok J.ok, J.os, J.bare, J.base, J.loc, J.cell, J.free, J.freeC, fun p hp => ?_, J.hok, J.len⟩
  have hp : p ∈ X.pn := by
    rcases List.mem_append.mp hp with z | z
    · exact z
    · cases z
  have q := I.pin p (List.mem_append_left _ hp)
  exact ⟨pushCells_keeps _ _ _ _ (Heap.get?_push_of_some _ q.1), q.2.1, Nat.ne_of_lt (Heap.lt_size q.1), stk_free I hp, q.2.2.2.2⟩
/-- the core of a comprehension there; post: what is asked behind the block -/
theorem lcH_core {Q : VK} {elt tg iter : Expr} {ifs : List Expr} {scope : Scope} {own : List (Str × Nat)} {pos pos' : Pos} {wi : TI} {g : TG} {tt : TT} {te : TE} {use : Option (Value → Sem Unit)} {Qf : Value → Shared → Prop}
    (hc : HotC X) (hN : X.N.Nodup) (I : Inv X pins σ H s) (hi : PIH X tg iter wi) (ok : BlkOk X.N X.env.scope scope own)
    (hb : ∀ (s : Shared) (H : Hp) (C : Addr) (l : List (Str × Addr)) (fp : List Addr), PG (blkH X s H scope (compEnvC scope l C X.env) fp) tg g ∧ PTs (blkH X s H scope (compEnvC scope l C X.env) fp) ifs tt ∧ PE (blkH X s H scope (compEnvC scope l C X.env) fp) elt te)
    (hs : ∀ x, foldedSetIterable iter X.env x = pure x) (h : tLc wi g tt te (own.map (·.2)) σ H Q)
    (post : ∀ D C s' mm H', Inv X pins σ H' s' → Q (.ref D) H' → s'.heap.Ns C mm → FpOk X pins H' C → compPost (model X.prog X.w) X.A X.xe use Qf (.ref D) C (.ok .next) s') :
    wpAny (model X.prog X.w) X.A (comprehension (.ListComp elt [⟨tg, iter, ifs, 0⟩] scope pos) scope X.env pos' (newList []) false (eval iter X.env) use) Qf X.xe s := by
  refine wpAny_comprehension_free (use := use) rfl hs (closure_ok fun y hy e => ?_) ok.kind (fun y hy e => by rw [ok.uniq y hy, e]) (thn (hi.run pins s σ H _ I h) fun xv s1 hx => thn hx fun itv s2 h2 => ?_)
  · rcases ok.free y hy e with k | k
    · exact I.ok.has _ (.inl k)
    · exact I.ok.has _ (.inr k)
  obtain ⟨it, fp, tn, J, H2, rfl, I2, T, st2, f2, q⟩ := h2
  refine wpAny_newObj_type (newEnv_comp ?_) (by show 0 ≤ sizeLine; decide)
  generalize hD : s2.heap.objs.size = D
  obtain ⟨Wn, ⟨m0, w0⟩, turn⟩ := q D (I2.hok.fresh (Nat.le_of_eq hD))
  generalize hs3 : ({ s2 with heap := s2.heap.push { cls := .type "list", data := .seq ([] : List Value).toArray } } : Shared) = s3
  have h3 : s3.heap = s2.heap.push { cls := .type "list", data := .seq ([] : List Value).toArray } := by rw [← hs3]
  have I3 : Inv X pins σ (upd H2 D (.lst [])) s3 := by
    subst hs3
    refine I2.laid (t' := s2.toks) (fun b o e => Heap.get?_push_of_some _ e) (Nat.le_of_eq hD) ⟨Nat.zero_le _, [], 0, .nil, ?_⟩
    subst hD
    exact Heap.get?_push_size _ rfl
  have small : ∀ b ∈ fp, b < s2.heap.objs.size := fun b hb => (T.obj _ _ st2 b hb).elim fun o e => Heap.lt_size e.1
  have f3 : ∀ b ∈ fp, FpOk X pins (upd H2 D (.lst [])) b ∧ b < s3.heap.objs.size := fun b hb => by
    have lt := small b hb
    refine ⟨⟨?_, (f2 b hb).2⟩, ?_⟩
    · rw [upd_ne (by subst hD; exact Nat.ne_of_lt lt)]
      exact (f2 b hb).1
    · rw [h3, Heap.size_push]
      exact Nat.lt_succ_of_lt lt
  have I4 := blkH_start I3 ok hN f3
  obtain ⟨pg, pt, pe⟩ := hb s3 (upd H2 D (.lst [])) s3.heap.objs.size (cellsFrom (s3.heap.objs.size + 1) scope.names (cloFrom X.env.cells scope.names [])) fp
  show codeAny _ _ (.compStart (.ListComp elt [⟨tg, iter, ifs, 0⟩] scope pos) 0 (.ref it) (.ref D) (compEnvC scope (cellsFrom (s3.heap.objs.size + 1) scope.names (cloFrom X.env.cells scope.names [])) s3.heap.objs.size X.env)) (compPost (model X.prog X.w) X.A X.xe use Qf (.ref D) s3.heap.objs.size) { s3 with heap := pushCells (s3.heap.push { cls := .type "dict", data := .dict #[] }) scope.names }
  generalize hce : compEnvC scope (cellsFrom (s3.heap.objs.size + 1) scope.names (cloFrom X.env.cells scope.names [])) s3.heap.objs.size X.env = ce at I4 pg pt pe ⊢
  have loc : ce.locals = s3.heap.objs.size := by subst hce; rfl
  generalize hH : upd H2 D (.lst []) = H3 at I3 I4 pg pt pe w0 f3
  generalize hs4 : ({ s3 with heap := pushCells (s3.heap.push { cls := .type "dict", data := .dict #[] }) scope.names } : Shared) = s4 at I4 ⊢
  have st4 : tn 0 s4.heap := T.keep _ _ _ st2 fun b _ o e => by
    subst hs4
    refine pushCells_keeps _ _ _ _ (Heap.get?_push_of_some _ ?_)
    rw [h3]
    exact Heap.get?_push_of_some _ e
  generalize hY : blkH X s3 H3 scope ce fp = Y at I4 pg pt pe
  have eY : Y.prog = X.prog ∧ Y.w = X.w ∧ Y.K = X.K ∧ Y.A = X.A ∧ Y.env = ce ∧ Y.pn = X.pn := by subst hY; exact ⟨rfl, rfl, rfl, rfl, rfl, rfl⟩
  subst hY
  have hot : HotC (blkH X s3 H3 scope ce fp) := hc
  have fpk : ∀ {τ : L2.St} {H' : Hp} {s' : Shared}, Inv (blkH X s3 H3 scope ce fp) [] τ H' s' → (∀ b ∈ fp, H' b = none) → ∀ b ∈ fp, FpOk (blkH X s3 H3 scope ce fp) [] H' b := fun {τ H' s'} I' n b hb => by
    refine ⟨n b hb, (I'.ok.exf b hb).1, I'.ok.exfs b hb, .inl hb, fun x c e => (I'.ok.exf b hb).2 x c e, fun p hp => ?_⟩
    have hp : p ∈ X.pn := by
      rcases List.mem_append.mp hp with z | z
      · exact z
      · cases z
    exact (f2 b hb).2.2.2.2.2 p (List.mem_append_left _ hp)
  have loop : codeAny (model X.prog X.w) X.A (.compLoop (.ListComp elt [⟨tg, iter, ifs, 0⟩] scope pos) 0 (.ref it) (.ref D) ce) (compPost (model X.prog X.w) X.A X.xe use Qf (.ref D) s3.heap.objs.size) s4 := by
    refine compLoop_any (fun n s' => ∃ i H', Inv (blkH X s3 H3 scope ce fp) [] (wipe σ (own.map (·.2))) H' s' ∧ tn i s'.heap ∧ (∀ b ∈ fp, H' b = none) ∧ Wn i n H') ?_ m0 ⟨0, H3, I4, st4, fun b hb => (f3 b hb).1.1, w0⟩
    rintro n s5 ⟨i, H5, I5, st5, n5, w5⟩
    rcases turn i n H5 w5 with ⟨stop, qq⟩ | ⟨go, Nx, hNx, step⟩
    · refine thnF (T.done (blkH X s3 H3 scope ce fp) rfl rfl rfl hot i [] s5 _ H5 (fun _ _ => False) I5 (fpk I5 n5) st5 stop) fun r s6 ⟨hr, I6⟩ => ?_
      subst hr
      obtain ⟨mm, hn, _⟩ := I6.loc
      have hn : s6.heap.Ns ce.locals mm := hn
      have fr : H5 ce.locals = none := I6.free
      rw [loc] at hn fr
      refine post D s3.heap.objs.size s6 mm H5 ?_ qq hn (I3.fpOk (Nat.le_refl _) fr)
      exact I3.call' (ch := fp) I6.os I6.base I6.hok I6.bare fun b hb => ⟨(f3 b hb).1.2.2.2.1, (f3 b hb).1.2.1, (f3 b hb).1.2.2.2.2.1, (f3 b hb).1.2.2.2.2.2⟩
    · refine thnF (T.item (blkH X s3 H3 scope ce fp) rfl rfl rfl hot i [] s5 _ H5 (fun _ _ => False) I5 (fpk I5 n5) st5 go) fun r s6 ⟨u, hr, h6⟩ => ?_
      subst hr
      refine thnF h6 fun _ s7 ⟨x, H7, I7, r7, y7, st7, n7⟩ => ?_
      have I7' := I7.pinned (fpk I7 n7) (T.obj _ _ st7)
      refine thnF (pg.run _ s7 _ H7 x u _ I7' r7 (step x H7 y7)) fun _ s8 ⟨τ, H8, I8, hw, q8⟩ => ?_
      refine thnF (pt.run _ s8 τ H8 _ I8 q8) fun b s9 ⟨H9, I9, q9⟩ => ?_
      have again : ∀ {s' : Shared} {H' : Hp}, Inv (blkH X s3 H3 scope ce fp) ([] ++ pinsAt fp s7.heap) τ H' s' → Nx H' → ∃ k, k < n ∧ ∃ i H', Inv (blkH X s3 H3 scope ce fp) [] (wipe σ (own.map (·.2))) H' s' ∧ tn i s'.heap ∧ (∀ b ∈ fp, H' b = none) ∧ Wn i k H' := fun {s' H'} I' nx => by
        obtain ⟨k, hk, w'⟩ := hNx H' nx
        have pin : ∀ b ∈ fp, ∀ o, s7.heap.get? b = some o → s'.heap.get? b = some o ∧ H' b = none := fun b hb o e => by
          have z := I'.pin (b, o) (List.mem_append_right _ (List.mem_append_right _ (mem_pinsAt hb e)))
          exact ⟨z.1, z.2.1⟩
        refine ⟨k, hk, i + 1, H', (I'.unpinned (pins := [])).weak (by rw [← hw, wipe_length]) (fun j v e => ?_), T.keep _ _ _ st7 fun b hb o e => (pin b hb o e).1, fun b hb => ?_, w'⟩
        · rw [← hw] at e
          exact (wipe_some e).1
        · obtain ⟨o, e, _⟩ := T.obj _ _ st7 b hb
          exact (pin b hb o e).2
      cases b with
      | false =>
        rw [if_neg Bool.false_ne_true] at q9 ⊢
        exact again I9 q9
      | true =>
        rw [if_pos rfl] at q9 ⊢
        refine thnF (pe.run _ s9 τ H9 _ I9 q9) fun z s10 ⟨yv, H10, I10, r10, acc, e10, z10, nx⟩ => ?_
        exact app_ok (X := blkH X s3 H3 scope ce fp) I10 e10 z10 r10 fun s11 I11 => again I11 nx
  exact codeAny_compStart_list loop (T.self X.A 0 _ _ _ st4 loop)
theorem pe_lcH {elt tg iter : Expr} {ifs : List Expr} {scope : Scope} {own : List (Str × Nat)} {pos : Pos} {wi : TI} {g : TG} {tt : TT} {te : TE} (hc : HotC X) (hN : X.N.Nodup) (hi : PIH X tg iter wi) (ok : BlkOk X.N X.env.scope scope own)
    (hb : ∀ (s : Shared) (H : Hp) (C : Addr) (l : List (Str × Addr)) (fp : List Addr), PG (blkH X s H scope (compEnvC scope l C X.env) fp) tg g ∧ PTs (blkH X s H scope (compEnvC scope l C X.env) fp) ifs tt ∧ PE (blkH X s H scope (compEnvC scope l C X.env) fp) elt te)
    (hs : ∀ x, foldedSetIterable iter X.env x = pure x) : PE X (.ListComp elt [⟨tg, iter, ifs, 0⟩] scope pos) (tLc wi g tt te (own.map (·.2))) := by
  refine ⟨fun pins s σ H Q I h => ?_⟩
  rw [eval_ListComp]
  refine lcH_core hc hN I hi ok hb hs h fun D C s' mm H' I' q hn f => ⟨mm, hn, fun h'' sb => ?_⟩
  obtain ⟨f0, f1, f2, f3, f4, f5⟩ := f
  exact ⟨.ref D, H', I'.turned (t' := s'.toks) (fun b o hb e => (sb.2 b hb).trans e) f0 f1 f3 f4 f5, rfl, q⟩
theorem pi_range2H {tg a b : Expr} {ta : TA} {p pos : Pos} (hg : Gl X "range") (hm : X.mg "range" = none) (ha : PA X [a, b] ta) (hs : starEach [a, b] X.env = (false, eval a X.env) :: starEach [b] X.env) (hp : (backTo pos (starEach [b] X.env)).any (·.1) = false) :
    PIH X tg (.Call (.Name "range" p) [a, b] [] pos) (iRng2 ta) := by
  refine ⟨fun pins s σ H R I h => ?_⟩
  refine Call_ (ld_blt I hg hm boot_range (PyProof.Rows.callWith_type1 (thn (ha.run pos pins s σ H _ I h) fun us s1 ⟨vs, H1, I1, r1, q1⟩ => ?_) hs hp))
  obtain ⟨i, j, rfl, ⟨q1, q2, q3, q4⟩, q⟩ := q1
  obtain ⟨u1, u2, rfl, r2, r3⟩ := vals2 r1
  obtain ⟨t1, rfl⟩ := r2
  obtain ⟨t2, rfl⟩ := r3
  exact call_range_2 (range_itH I1 q1 q2 q3 q4 q)
end
end WL
end
section
set_option Elab.async false
set_option linter.all false
set_option maxRecDepth 100000
set_option maxHeartbeats 4000000
/-! WK: the interpreter's readings give the hand layer's. -/
namespace WL
open PySem L2
section
variable {K : PySem.W.Frag} {cl : Cl} {m : Md} {W : WX} {σ : St} {H : Hp} {Q : VK}
theorem t_one {ra : Ro → Sto → Res D} {f : D → Sto → Res D} {P : V → Hp → VK → Prop} (h : tE K cl m W (fun ρ S => (ra ρ S).bind fun x S => f x S) σ H Q)
    (k : ∀ d S ι H v, RS K cl m H ι S → RV K H ι d v → PstE K cl m W σ ι H (f d S) Q → P v H Q) : tE K cl m W ra σ H (fun v H1 => P v H1 Q) := by
  obtain ⟨ρ, S, ι, g, hp⟩ := h
  exact ⟨ρ, S, ι, g, Pst.of_bind hp fun d S1 v H1 ι1 _ _ rs rv q => k d S1 ι1 H1 v rs rv q⟩
theorem t_two {ra rb : Ro → Sto → Res D} {f : D → D → Sto → Res D} (h : tE K cl m W (fun ρ S => (ra ρ S).bind fun x S => (rb ρ S).bind fun y S => f x y S) σ H Q) :
    tOp (rD K cl m W f) (tE K cl m W ra) (tE K cl m W rb) σ H Q := by
  obtain ⟨ρ, S, ι, g, hp⟩ := h
  refine ⟨ρ, S, ι, g, Pst.of_bind hp fun d S1 v H1 ι1 _ st rs rv q => ?_⟩
  exact ⟨ρ, S1, ι1, g.step st rs, Pst.of_bind q fun d2 S2 v2 H2 ι2 _ st2 rs2 rv2 q2 => ⟨d, d2, S2, ι2, σ, rs2, RV.step st2 _ _ rv, rv2, q2⟩⟩
theorem t_args {ra : Ro → Sto → Res (List D)} {f : List D → Sto → Res D} {P : List V → Hp → VK → Prop} (h : tE K cl m W (fun ρ S => (ra ρ S).bind fun x S => f x S) σ H Q)
    (k : ∀ ds S ι H vs, RS K cl m H ι S → RVs K H ι ds vs → PstE K cl m W σ ι H (f ds S) Q → P vs H Q) : tA K cl m W ra σ H (fun v H1 => P v H1 Q) := by
  obtain ⟨ρ, S, ι, g, hp⟩ := h
  exact ⟨ρ, S, ι, g, Pst.of_bind hp fun d S1 v H1 ι1 _ _ rs rv q => k d S1 ι1 H1 v rs rv q⟩
end
section
variable {pg : Pg} {cl : Cl} {ck : Ck} {m : Md} {k : Nat} {call : Str → List D → Sto → Res D} {sc : Sc} {W : WX} {X : Cx}
theorem XOk.units (O : XOk pg cl ck m k call sc W X) : X.A.units + 64 < cLine := by
  have := O.room.units
  omega
theorem XOk.gl (O : XOk pg cl ck m k call sc W X) {x : Str} (h : glB sc.vis x = true) : Gl X x := by
  show X.env.scope.names.lookup x = _
  rw [O.scope]
  exact glB_ok h
theorem XOk.vis_ (O : XOk pg cl ck m k call sc W X) {x : Str} (h : visB sc.vis x = true) : Vis X.env.scope x := by
  rw [O.scope]
  exact visB_ok h
theorem XOk.free_ (O : XOk pg cl ck m k call sc W X) {x : Str} (h : ck.bn.contains x = true) : X.mg x = none := O.free x (List.contains_iff_mem.mp h)
theorem XOk.calm (O : XOk pg cl ck m k call sc W X) (h : ck.hot = false) : X.calm = true := by
  have e := O.cold h
  have mo := O.mode
  rw [e] at mo
  exact mo
theorem plain_dbg {x : Str} (h : plainName x = true) : (x == ("__debug__" : Str)) = false ∧ (x == ("__classdict__" : Str)) = false ∧ x ≠ "__name__" := by
  unfold plainName at h
  simp only [Bool.and_eq_true, Bool.not_eq_true'] at h
  refine ⟨h.1.1, h.1.2, fun e => ?_⟩
  subst e
  have := h.2
  revert this
  decide
theorem blt_ok (O : XOk pg cl ck m k call sc W X) {x y : Str} (h : blt ck sc x y = true) : x = y ∧ X.mg y = none ∧ Gl X y := by
  unfold blt at h
  simp only [Bool.and_eq_true, decide_eq_true_eq] at h
  obtain ⟨⟨rfl, h2⟩, h3⟩ := h
  exact ⟨rfl, O.free_ h2, O.gl h3⟩
/-! ### leaves -/
theorem pe_litW {d : D} {c : Const} {j : Nat} {pos : Pos} (h : litB d c = true) : PE X (.Constant c j pos) (tE X.K cl m W fun _ S => .ok d S) := by
  unfold litB at h
  split at h
  · exact PE.imp pe_non fun σ H Q ⟨ρ, S, ι, g, hp⟩ => Pst.here hp g.2 (by simp [RV])
  · rename_i a b
    obtain rfl : a = b := by simpa using h
    exact PE.imp pe_bl fun σ H Q ⟨ρ, S, ι, g, hp⟩ => Pst.here hp g.2 (by simp [RV])
  · rename_i a b
    obtain rfl : a = b := by simpa using h
    exact PE.imp pe_int fun σ H Q ⟨ρ, S, ι, g, hp⟩ => Pst.here hp g.2 (by simp [RV])
  · rename_i a b
    obtain rfl : a = b := by simpa using h
    exact PE.imp pe_str fun σ H Q ⟨ρ, S, ι, g, hp⟩ => Pst.here hp g.2 (by simp [RV])
  · cases h
theorem pe_locW (O : XOk pg cl ck m k call sc W X) {i : Nat} {x : Str} {pos : Pos} (h1 : ck.N[i]? = some x) (h2 : visB sc.vis x = true) (h3 : plainName x = true) :
    PE X (.Name x pos) (tE X.K cl m W fun ρ S => match ρ[i]? with
      | some (some d) => .ok d S
      | _ => .bad) := by
  obtain ⟨n1, n2, _⟩ := plain_dbg h3
  refine PE.imp (pe_var (i := i) (by rw [O.N]; exact h1) (O.vis_ h2) n1 n2) fun σ H Q h => ?_
  obtain ⟨ρ, S, ι, g, hp⟩ := h
  simp only at hp
  split at hp
  · rename_i d hd
    obtain ⟨v, h4, h5⟩ := g.1.at_ i d hd
    exact ⟨v, h4, Pst.here hp g.2 h5⟩
  · exact hp.elim
theorem pe_conW (O : XOk pg cl ck m k call sc W X) {x : Str} {pos : Pos} (h2 : glB sc.vis x = true) (h3 : plainName x = true) : PE X (.Name x pos) (tE X.K cl m W fun _ S => Res.of (pg.con x) S) := by
  obtain ⟨n1, n2, _⟩ := plain_dbg h3
  cases hc : pg.con x with
  | none => exact ⟨fun pins s σ H Q I ⟨ρ, S, ι, g, hp⟩ => hp.elim⟩
  | some d =>
    obtain ⟨u, v, e1, e2, e3⟩ := O.con x d hc
    exact PE.imp (pe_glob (O.gl h2) e1 e2 n1) fun σ H Q ⟨ρ, S, ι, g, hp⟩ => Pst.here hp g.2 (e3 H ι)
/-! ### rows of values -/
theorem pa_nilW : PA X [] (tA X.K cl m W fun _ S => .ok [] S) := PA.imp pa_nil fun σ H Q ⟨ρ, S, ι, g, hp⟩ => Pst.here hp g.2 rvs_nil
theorem pa_consW {e : Expr} {es : List Expr} {ra : Ro → Sto → Res D} {rr : Ro → Sto → Res (List D)} (ha : PE X e (tE X.K cl m W ra)) (hr : PA X es (tA X.K cl m W rr)) (hs : isStar e = false) :
    PA X (e :: es) (tA X.K cl m W fun ρ S => (ra ρ S).bind fun x S => (rr ρ S).bind fun xs S => .ok (x :: xs) S) := by
  refine PA.imp (pa_cons ha hr (star_of hs)) fun σ H Q h => ?_
  obtain ⟨ρ, S, ι, g, hp⟩ := h
  refine ⟨ρ, S, ι, g, Pst.of_bind hp fun d S1 v H1 ι1 _ st rs rv q => ?_⟩
  exact ⟨ρ, S1, ι1, g.step st rs, Pst.of_bind q fun d2 S2 v2 H2 ι2 _ st2 rs2 rv2 q2 => Pst.here q2 rs2 (rvs_cons (RV.step st2 _ _ rv) rv2)⟩
theorem pe_tupW {es : List Expr} {j : Nat} {pos : Pos} {rr : Ro → Sto → Res (List D)} (ha : PA X es (tA X.K cl m W rr)) :
    PE X (.Tuple es j pos) (tE X.K cl m W fun ρ S => (rr ρ S).bind fun xs S => if xs.length ≤ sizeLine then .ok (.tup xs) S else .bad) := by
  refine PE.imp (pe_tup ha) fun σ H Q h => t_args (P := fun xs H1 Q => xs.length ≤ sizeLine ∧ ∀ p, H1 p = none → Q (.ref p) (upd H1 p (.tup xs))) h fun ds S ι H vs rs rv q => ?_
  obtain ⟨hz, q⟩ := Pst.ite q
  exact ⟨by rw [← RVs.length rv]; exact hz, fun p np => Pst.tupN q rs rv np⟩
theorem pe_lstW {es : List Expr} {pos : Pos} {rr : Ro → Sto → Res (List D)} (ha : PA X es (tA X.K cl m W rr)) :
    PE X (.List es pos) (tE X.K cl m W fun ρ S => (rr ρ S).bind fun xs S => if xs.length ≤ sizeLine then .ok (.ref S.length) (S ++ [.lst xs]) else .bad) := by
  refine PE.imp (pe_lst ha) fun σ H Q h => t_args (P := fun xs H1 Q => xs.length ≤ sizeLine ∧ ∀ p, H1 p = none → Q (.ref p) (upd H1 p (.lst xs))) h fun ds S ι H vs rs rv q => ?_
  obtain ⟨hz, q⟩ := Pst.ite q
  exact ⟨by rw [← RVs.length rv]; exact hz, fun p np => Pst.lstN q rs rv np⟩
/-! ### calls -/
theorem exc_at {α β : Type} {K : PySem.W.Frag} {R : Hp → Pls → α → β → Prop} {σ : St} {ι : Pls} {H : Hp} {r : Res α} {Q : β → Hp → Prop} (h : Pst K cl m W R σ ι H r Q) : Pst K cl m (fun c d _ H' => W c d σ H') R [] ι H r Q := by
  cases r with
  | ok d S => exact h
  | exc c fs S => exact h
  | bad => exact h
theorem run_W (O : XOk pg cl ck m k call sc W X) {f : Str} {n : Nat} {fa : Addr} {fd : FuncData} {ps : List Str} (hb : Binds X.K fd ps []) (hp : ps.length = n) (F : FnG X.prog X.w X.K X.mg X.base cl k fa fd ps (spG X.K cl pg.cls n (ck.fh.contains f) (call f)))
    {pins : List (Addr × Obj)} {σ : St} {H : Hp} {s : Shared} {us : List Value} {vs : List V} {Q : VK} (I : Inv X pins σ H s) (r : Vals vs us) (h : spG X.K cl pg.cls n (ck.fh.contains f) (call f) m vs H Q (fun c d H' => W c d σ H')) :
    wpAny (model X.prog X.w) X.A (PySem.call (.ref fa) us) (EP X pins σ Q) X.xe s := by
  have hl : us.length = ps.length := by rw [← r.length]; exact F.len _ _ _ _ _ h
  have b := hb s us I.kIn (by rw [List.append_nil]; exact hl)
  rw [List.append_nil] at b
  refine wpAny_call (codeAny_mono (F.run X.A X.stack s H ⟨us, []⟩ us vs Q _ m O.room (O.mode.at_call I) I.env0 b r h) fun q s' hq => ?_)
  cases q with
  | error e => exact L2N.passAt O.takes σ pins H s e s' I hq
  | ok fl =>
    cases fl with
    | ret u => exact I.after hq
    | next => exact hq.elim
    | brk => exact hq.elim
    | cont => exact hq.elim
theorem pe_callW (O : XOk pg cl ck m k call sc W X) {f : Str} {n : Nat} {e : Expr} {es : List Expr} {p pos : Pos} {ra : Ro → Sto → Res (List D)} (hf : ck.fn f = some n) (hh : (!ck.hot || ck.fh.contains f) = true) (hg : glB sc.vis f = true) (hn : plainName f = true) (hs : isStar e = false) (hss : starless es = true)
    (ha : PA X (e :: es) (tA X.K cl m W ra)) (hl : ∀ ρ S ds S', ra ρ S = .ok ds S' → ds.length = n) : PE X (.Call (.Name f p) (e :: es) [] pos) (tE X.K cl m W fun ρ S => (ra ρ S).bind fun xs S => call f xs S) := by
  obtain ⟨fa, fd, ps, h1, h2, h3, h4, F⟩ := O.fns f n hf
  have hm : m = none ∨ ck.fh.contains f = true := by
    rw [Bool.or_eq_true] at hh
    rcases hh with hh | hh
    · exact .inl (O.cold (by simpa using hh))
    · exact .inr hh
  refine ⟨fun pins s σ H Q I h => ?_⟩
  refine wpAny_Call_Name_kw (ld_glob I (O.gl hg) h1 ?_ (plain_dbg hn).1)
  obtain ⟨ρ, S, ι, g, hp⟩ := h
  refine PySem.W.callWith_K (h₀ := X.base) I.ok.mod.kin h2 (thn (ha.run pos pins s σ H (fun vs H1 => spG X.K cl pg.cls n (ck.fh.contains f) (call f) m vs H1 Q fun c d H' => W c d σ H') I ⟨ρ, S, ι, g, ?_⟩) fun us s1 ⟨vs, H1, I1, r, q⟩ => ⟨I1.kIn, ?_⟩) (star_of hs) (starless_any hss)
  · exact Pst.of_bind hp fun d S1 v H1 ι1 er st rs rv q => ⟨⟨hm, O.exk⟩, by rw [← RVs.length rv]; exact hl _ _ _ _ er, d, S1, ι1, rv, rs, exc_at q⟩
  · exact run_W O h3 h4 F I1 r q
theorem boot_bf : ∀ f : BF, bootBuiltins (bfName f) = some (bfVal f) := by
  intro f
  cases f <;> decide +kernel
theorem pe_bifW (O : XOk pg cl ck m k call sc W X) {f : BF} {e : Expr} {es : List Expr} {p pos : Pos} {ra : Ro → Sto → Res (List D)} (hb : blt ck sc (bfName f) (bfName f) = true) (hc : bfHot f = false → X.calm = true) (hs : isStar e = false) (hss : starless es = true)
    (ha : PA X (e :: es) (tA X.K cl m W ra)) : PE X (.Call (.Name (bfName f) p) (e :: es) [] pos) (tE X.K cl m W fun ρ S => (ra ρ S).bind fun xs S => bifD f xs S) := by
  obtain ⟨_, hm, hg⟩ := blt_ok O hb
  have hr : CallR X (bfVal f) (rF X.K cl m W (bifD f)) := snd_bif f hc O.room
  have hv := boot_bf f
  have hn : bfName f ≠ "__name__" := by cases f <;> decide
  have hd : (bfName f == ("__debug__" : Str)) = false := by cases f <;> decide
  have fin : ∀ (σ : St) (H : Hp) (Q : VK), tE X.K cl m W (fun ρ S => (ra ρ S).bind fun xs S => bifD f xs S) σ H Q → tCB (rF X.K cl m W (bifD f)) (tA X.K cl m W ra) σ H Q := fun σ H Q h =>
    t_args (P := rF X.K cl m W (bifD f)) h fun ds S ι H vs rs rv q => ⟨ds, S, ι, σ, rs, rv, q⟩
  have kind : (∃ id, bfVal f = .builtin id) ∨ ∃ T, bfVal f = .type T := by cases f <;> first | exact .inl ⟨_, rfl⟩ | exact .inr ⟨_, rfl⟩
  rcases kind with ⟨id, ei⟩ | ⟨T, ei⟩
  · rw [ei] at hr hv
    exact PE.imp (pe_callB hr hg hm hv ha hn hd (star_of hs) (starless_any hss)) fin
  · rw [ei] at hr hv
    exact PE.imp (pe_callTy hr hg hm hv ha hn hd (star_of hs) (starless_any hss)) fin
theorem tyV_lst {K : PySem.W.Frag} {H : Hp} {ι : Pls} {S : Sto} {d : D} {v : V} (r : RS K cl m H ι S) (hv : RV K H ι d v) (h : isL S d = true) : tyV K "list" v H := by
  cases d with
  | ref l =>
    simp only [isL] at h
    split at h
    · rename_i ds hs
      obtain ⟨a, vs, rfl, _, h2, _⟩ := lst_at r hv hs
      exact .inl ⟨rfl, vs, SqL.of h2⟩
    · cases h
  | _ => cases h
theorem pe_mth0W {o : Expr} {apos cpos : Pos} {ro : Ro → Sto → Res D} (ho : PE X o (tE X.K cl m W ro)) (hb : noCall o = true) (hl : (apos.endLine == cpos.line) = true) :
    PE X (.Call (.Attribute o "pop" apos) [] [] cpos) (tE X.K cl m W fun ρ S => (ro ρ S).bind fun x S => if isL S x = true then (Res.ok [] S).bind fun xs S => mthD .pop0 x xs S else .bad) := by
  refine PE.imp (pe_bm0 PySem.F.plainAttrs_list PySem.F.slot_list_pop PySem.F.type_list_pop (snd_pop0 (cl := cl) (m := m) (W := W)) ho (base_of hb) hl) fun σ H Q h => ?_
  refine t_one (P := fun x H1 Q => tyV X.K "list" x H1 ∧ rM X.K cl m W mPop0 x [] H1 Q) h fun d S ι H v rs rv q => ?_
  obtain ⟨h1, q⟩ := Pst.ite q
  exact ⟨tyV_lst rs rv h1, d, [], S, ι, σ, rs, rv, rvs_nil, q⟩
theorem few_of {e : Expr} {env : Env} {cpos : Pos} (hs : isStar e = false) : ((backTo cpos (starEach [e] env)).all (fun x => !x.1) && (backToKw cpos (keywordEach [] env)).all (fun x => x.1.isSome)
      && decide (([e] : List Expr).length + ([] : List Keyword).length + (if ([] : List Keyword).isEmpty then 0 else 1) < 30)) = true := by
  rw [star_of hs]
  rfl
theorem pe_mth1W {mf : MF} {nm : Str} {id : String} {f : D → List D → Sto → Res D} (hf : ∀ x xs S, mthD mf x xs S = f x xs S) (slot : Slot "list" nm id) (hty : typeOf (.builtin id) = pure (.type "method_descriptor")) (hm : MtR X id (rM X.K cl m W f))
    {o e : Expr} {apos cpos : Pos} {ro : Ro → Sto → Res D} {ra : Ro → Sto → Res (List D)} (ho : PE X o (tE X.K cl m W ro)) (ha : PA X [e] (tA X.K cl m W ra)) (hb : noCall o = true) (hl : (apos.endLine == cpos.line) = true) (hs : isStar e = false) :
    PE X (.Call (.Attribute o nm apos) [e] [] cpos) (tE X.K cl m W fun ρ S => (ro ρ S).bind fun x S => if isL S x = true then (ra ρ S).bind fun xs S => mthD mf x xs S else .bad) := by
  refine PE.imp (pe_bm PySem.F.plainAttrs_list slot hty hm ho ha (base_of hb) (few_of hs) hl (star_of hs) rfl) fun σ H Q h => ?_
  obtain ⟨ρ, S, ι, g, hp⟩ := h
  refine ⟨ρ, S, ι, g, Pst.of_bind hp fun d S1 v H1 ι1 _ st rs rv q => ?_⟩
  obtain ⟨h1, q⟩ := Pst.ite q
  refine ⟨tyV_lst rs rv h1, ρ, S1, ι1, g.step st rs, Pst.of_bind q fun d2 S2 v2 H2 ι2 _ st2 rs2 rv2 q2 => ?_⟩
  exact ⟨d, d2, S2, ι2, σ, rs2, RV.step st2 _ _ rv, rv2, by rw [← hf]; exact q2⟩
/-- isinstance(x, c) -/
theorem pe_clsW (O : XOk pg cl ck m k call sc W X) {c : Str} {pos : Pos} (hg : glB sc.vis c = true) (hn : plainName c = true) (h : (tyB ck c || ck.cls.contains c) = true) : ∃ cv cu, clsV cl ck c = some (cv, cu) ∧ PE X (.Name c pos) (tC cv) := by
  obtain ⟨n1, n2, n3⟩ := plain_dbg hn
  cases hc : ck.cls.contains c with
  | true =>
    refine ⟨.ref (cl c), .ref (cl c), ?_, pe_glob (O.gl hg) (O.cls c hc) rfl n1⟩
    unfold clsV
    rw [if_pos hc]
  | false =>
    rw [hc, Bool.or_false] at h
    simp only [tyB, Bool.and_eq_true, Bool.or_eq_true, decide_eq_true_eq] at h
    have hm := O.free_ h.1
    have key : ∀ {t : String}, tyN c = some t → bootBuiltins c = some (.type t) → ∃ cv cu, clsV cl ck c = some (cv, cu) ∧ PE X (.Name c pos) (tC cv) := fun {t} e1 e2 => by
      refine ⟨.ty t, .type t, ?_, pe_bltn (O.gl hg) hm e2 rfl n3 n1⟩
      unfold clsV
      rw [if_neg (by rw [hc]; decide), e1]
      rfl
    rcases h.2 with (((h | h) | h) | h) | h
    · subst h
      exact key (t := "int") rfl (boot_bf .int)
    · subst h
      exact key (t := "bool") (by decide) (by decide +kernel)
    · subst h
      exact key (t := "str") (by decide) (boot_bf .str)
    · subst h
      exact key (t := "tuple") (by decide) (boot_bf .tup)
    · subst h
      exact key (t := "ValueError") (by decide) (by decide +kernel)
end
end WL
end
section
set_option Elab.async false
set_option linter.all false
set_option maxRecDepth 100000
set_option maxHeartbeats 4000000
/-! WM: expressions: what the interpreter says, the model does. -/
namespace WL
open PySem L2
theorem bind_okE {α β : Type} {r : Res α} {f : α → Sto → Res β} {b : β} {S : Sto} (h : r.bind f = .ok b S) : ∃ a S1, r = .ok a S1 ∧ f a S1 = .ok b S := by
  cases r with
  | ok a S1 => exact ⟨a, S1, rfl, h⟩
  | exc c fs S1 => cases h
  | bad => cases h
theorem of_okE {α : Type} {o : Option α} {S S' : Sto} {a : α} (h : Res.of o S = .ok a S') : o = some a ∧ S' = S := by
  cases o with
  | some x =>
    cases h
    exact ⟨rfl, rfl⟩
  | none => cases h
section
variable {pg : Pg} {cl : Cl} {ck : Ck} {m : Md} {k : Nat} {call : Str → List D → Sto → Res D} {sc : Sc} {W : WX} {X : Cx}
/-! ### tests -/
theorem test_of {K : PySem.W.Frag} {σ : St} {Q : Bool → Hp → Prop} {r : Res D} {ι : Pls} {H : Hp} (hr : ∀ d S, r = .ok d S → ∃ b, d = .bl b) (hp : PstT K cl m W σ ι H (r.bind fun x S => Res.of (truth S x) S) Q) :
    PstE K cl m W σ ι H r fun x H' => ∃ k, x = .bl k ∧ Q k H' := by
  cases r with
  | ok d S =>
    obtain ⟨b, rfl⟩ := hr d S rfl
    intro v H' ι' st rs rv
    exact ⟨b, rv_bl rv, hp b H' ι' st rs rfl⟩
  | exc c fs S => exact hp
  | bad => exact hp
theorem cmpR_bl {op : CO} {x y d : D} {S S' : Sto} (h : cmpR op x y S = .ok d S') : ∃ b, d = .bl b := by
  obtain ⟨b, S1, _, h2⟩ := bind_okE h
  cases h2
  exact ⟨b, rfl⟩
theorem pt_cmpW {op : CO} {a b : Expr} {pos : Pos} {ra rb : Ro → Sto → Res D} (hu : X.A.units + 64 < cLine) (ha : PE X a (tE X.K cl m W ra)) (hb : PE X b (tE X.K cl m W rb)) (hm : behindInMarks (opC op) b = false) :
    PT X (.Compare a [opC op] [b] pos) (tT X.K cl m W fun ρ S => ((ra ρ S).bind fun x S => (rb ρ S).bind fun y S => cmpR op x y S).bind fun x S => Res.of (truth S x) S) := by
  refine PT.imp (pt_cmpR (snd_cmp (cl := cl) (m := m) (W := W) op hu) ha hb hm) fun σ H Q h => ?_
  show tOp _ _ _ _ _ _
  refine t_two ?_
  obtain ⟨ρ, S, ι, g, hp⟩ := h
  refine ⟨ρ, S, ι, g, test_of (fun d S' e => ?_) hp⟩
  obtain ⟨x, S1, _, e⟩ := bind_okE e
  obtain ⟨y, S2, _, e⟩ := bind_okE e
  exact cmpR_bl e
/-- a chain's reading -/
noncomputable def chnR (o p : CO) (ra rb rc : Ro → Sto → Res D) : Ro → Sto → Res D := fun ρ S => (ra ρ S).bind fun x S => (rb ρ S).bind fun y S => (Res.of (cmpD o x y S) S).bind fun k S => match k with
  | true => (rc ρ S).bind fun z S => (Res.of (cmpD p y z S) S).bind fun k S => .ok (.bl k) S
  | false => .ok (.bl false) S
theorem chn_of {K : PySem.W.Frag} {σ : St} {H : Hp} {Q : VK} {o p : CO} {ra rb rc : Ro → Sto → Res D} (h : tE K cl m W (chnR o p ra rb rc) σ H Q) :
    tChain (rD K cl m W (cmpR o)) (rD K cl m W (cmpR p)) (tE K cl m W ra) (tE K cl m W rb) (tE K cl m W rc) σ H Q := by
  obtain ⟨ρ, S, ι, g, hp⟩ := h
  refine ⟨ρ, S, ι, g, Pst.of_bind hp fun d S1 v H1 ι1 _ st rs rv q => ?_⟩
  refine ⟨ρ, S1, ι1, g.step st rs, Pst.of_bind q fun d2 S2 v2 H2 ι2 _ st2 rs2 rv2 q2 => ?_⟩
  refine ⟨d, d2, S2, ι2, σ, rs2, RV.step st2 _ _ rv, rv2, ?_⟩
  obtain ⟨b, hb, q3⟩ := Pst.bind_of q2
  show PstE K cl m W σ ι2 H2 ((Res.of (cmpD o d d2 S2) S2).bind fun k S => .ok (.bl k) S) _
  rw [hb]
  intro v3 H3 ι3 st3 rs3 rv3
  refine ⟨b, rv_bl rv3, ?_⟩
  have q4 := Pst.step st3 q3
  cases b with
  | false => exact Pst.here q4 rs3 (by simp [RV])
  | true =>
    refine ⟨ρ, S2, ι3, (g.step st rs |>.step st2 rs2).step st3 rs3, Pst.of_bind q4 fun d4 S4 v4 H4 ι4 _ st4 rs4 rv4 q5 => ?_⟩
    exact ⟨d2, d4, S4, ι4, σ, rs4, RV.step st4 _ _ (RV.step st3 _ _ rv2), rv4, q5⟩
theorem pe_chnW {o p : CO} {a b c : Expr} {pos : Pos} {ra rb rc : Ro → Sto → Res D} (hu : X.A.units + 64 < cLine) (ha : PE X a (tE X.K cl m W ra)) (hb : PE X b (tE X.K cl m W rb)) (hc : PE X c (tE X.K cl m W rc)) (hm : lastMarks [opC o, opC p] [b, c] = false) :
    PE X (.Compare a [opC o, opC p] [b, c] pos) (tE X.K cl m W (chnR o p ra rb rc)) :=
  PE.imp (pe_chain (snd_cmp (cl := cl) (m := m) (W := W) o hu) (snd_cmp (cl := cl) (m := m) (W := W) p hu) ha hb hc hm) fun σ H Q h => chn_of h
theorem chn_bl {o p : CO} {ra rb rc : Ro → Sto → Res D} {ρ : Ro} {S S' : Sto} {d : D} (h : chnR o p ra rb rc ρ S = .ok d S') : ∃ b, d = .bl b := by
  obtain ⟨x, S1, _, h⟩ := bind_okE h
  obtain ⟨y, S2, _, h⟩ := bind_okE h
  obtain ⟨b, S3, _, h⟩ := bind_okE h
  cases b with
  | false =>
    cases h
    exact ⟨_, rfl⟩
  | true =>
    obtain ⟨z, S4, _, h⟩ := bind_okE h
    obtain ⟨b, S5, _, h⟩ := bind_okE h
    cases h
    exact ⟨_, rfl⟩
theorem pt_chnW {o p : CO} {a b c : Expr} {pos : Pos} {ra rb rc : Ro → Sto → Res D} (hu : X.A.units + 64 < cLine) (ha : PE X a (tE X.K cl m W ra)) (hb : PE X b (tE X.K cl m W rb)) (hc : PE X c (tE X.K cl m W rc)) (hm : lastMarks [opC o, opC p] [b, c] = false) :
    PT X (.Compare a [opC o, opC p] [b, c] pos) (tT X.K cl m W fun ρ S => (chnR o p ra rb rc ρ S).bind fun x S => Res.of (truth S x) S) := by
  refine PT.imp (pt_chain (snd_cmp (cl := cl) (m := m) (W := W) o hu) (snd_cmp (cl := cl) (m := m) (W := W) p hu) ha hb hc hm) fun σ H Q h => ?_
  refine chn_of (Q := fun x H' => ∃ k, x = .bl k ∧ Q k H') ?_
  obtain ⟨ρ, S, ι, g, hp⟩ := h
  exact ⟨ρ, S, ι, g, test_of (fun d S' e => chn_bl e) hp⟩
theorem truth_ok {K : PySem.W.Frag} {H : Hp} {ι : Pls} {S : Sto} {d : D} {v : V} {b : Bool} (r : RS K cl m H ι S) (rv : RV K H ι d v) (h : truth S d = some b) : TruV K v H b := by
  cases d with
  | non =>
    cases h
    rw [rv_non rv]
    rfl
  | bl c =>
    cases h
    rw [rv_bl rv]
    rfl
  | int i =>
    cases h
    rw [rv_int rv]
    rfl
  | str z =>
    simp only [truth] at h
    split at h
    · cases h
      rw [rv_str rv]
      exact ⟨‹_›, rfl⟩
    · cases h
  | tup ds =>
    cases h
    obtain ⟨a, vs, rfl, h1, h2⟩ := rv_tup rv
    refine .inr (.inl ⟨vs, h1, ?_⟩)
    have := RVs.length h2
    cases ds <;> cases vs <;> simp_all
  | ref l =>
    simp only [truth] at h
    split at h
    · rename_i ds hs
      cases h
      obtain ⟨a, vs, rfl, _, h1, h2⟩ := lst_at r rv hs
      refine .inl ⟨vs, SqL.of h1, ?_⟩
      have := RVs.length h2
      cases ds <;> cases vs <;> simp_all
    · cases h
theorem pt_valW {e : Expr} {re : Ro → Sto → Res D} (he : PE X e (tE X.K cl m W re)) (hp : plainT e = true) : PT X e (tT X.K cl m W fun ρ S => (re ρ S).bind fun x S => Res.of (truth S x) S) := by
  refine PT.imp (pt_truth he fun w => ?_) fun σ H Q h => ?_
  · cases e <;> first | rfl | cases hp
  · obtain ⟨ρ, S, ι, g, hp⟩ := h
    refine ⟨ρ, S, ι, g, Pst.of_bind hp fun d S1 v H1 ι1 _ st rs rv q => ?_⟩
    obtain ⟨b, hb, q⟩ := Pst.of q
    exact ⟨b, truth_ok rs rv hb, Pst.here q rs rfl⟩
theorem pt_notW {e : Expr} {pos : Pos} {r : Ro → Sto → Res Bool} (he : PT X e (tT X.K cl m W r)) : PT X (.UnaryOp .Not e pos) (tT X.K cl m W fun ρ S => (r ρ S).bind fun k S => .ok (!k) S) := by
  refine PT.imp (pt_not he) fun σ H Q h => ?_
  obtain ⟨ρ, S, ι, g, hp⟩ := h
  exact ⟨ρ, S, ι, g, Pst.of_bind hp fun d S1 v H1 ι1 _ st rs rv q => by
    obtain rfl : v = d := rv
    exact Pst.here q rs rfl⟩
theorem pw_andW {a b : Expr} {rest : List Expr} {pos : Pos} {ra rb : Ro → Sto → Res Bool} (ha : PT X a (tT X.K cl m W ra)) (hb : PW X (.BoolOp .And (b :: rest) pos) (tT X.K cl m W rb)) :
    PW X (.BoolOp .And (a :: b :: rest) pos) (tT X.K cl m W fun ρ S => (ra ρ S).bind fun k S => if k = true then rb ρ S else .ok false S) := by
  refine PW.imp (pw_and ha hb) fun σ H Q h => ?_
  obtain ⟨ρ, S, ι, g, hp⟩ := h
  refine ⟨ρ, S, ι, g, Pst.of_bind hp fun d S1 v H1 ι1 _ st rs rv q => ?_⟩
  obtain rfl : v = d := rv
  cases v with
  | true => exact ⟨ρ, S1, ι1, g.step st rs, q⟩
  | false => exact Pst.here q rs rfl
theorem pw_orW {a b : Expr} {rest : List Expr} {pos : Pos} {ra rb : Ro → Sto → Res Bool} (ha : PT X a (tT X.K cl m W ra)) (hb : PW X (.BoolOp .Or (b :: rest) pos) (tT X.K cl m W rb)) :
    PW X (.BoolOp .Or (a :: b :: rest) pos) (tT X.K cl m W fun ρ S => (ra ρ S).bind fun k S => if k = true then .ok true S else rb ρ S) := by
  refine PW.imp (pw_or ha hb) fun σ H Q h => ?_
  obtain ⟨ρ, S, ι, g, hp⟩ := h
  refine ⟨ρ, S, ι, g, Pst.of_bind hp fun d S1 v H1 ι1 _ st rs rv q => ?_⟩
  obtain rfl : v = d := rv
  cases v with
  | false => exact ⟨ρ, S1, ι1, g.step st rs, q⟩
  | true => exact Pst.here q rs rfl
/-! ### and, or, not as values -/
theorem pe_andW {a b : Expr} {rest : List Expr} {pos : Pos} {ra rb : Ro → Sto → Res D} (ha : PE X a (tE X.K cl m W ra)) (hb : PE X (.BoolOp .And (b :: rest) pos) (tE X.K cl m W rb)) :
    PE X (.BoolOp .And (a :: b :: rest) pos) (tE X.K cl m W fun ρ S => (ra ρ S).bind fun x S => match x with
      | .bl true => rb ρ S
      | .bl false => .ok (.bl false) S
      | _ => .bad) := by
  refine PE.imp (pe_and ha hb) fun σ H Q h => ?_
  obtain ⟨ρ, S, ι, g, hp⟩ := h
  refine ⟨ρ, S, ι, g, Pst.of_bind hp fun d S1 v H1 ι1 _ st rs rv q => ?_⟩
  cases d with
  | bl c =>
    cases c with
    | true => exact ⟨true, rv_bl rv, ρ, S1, ι1, g.step st rs, q⟩
    | false => exact ⟨false, rv_bl rv, Pst.here q rs (by simp [RV])⟩
  | _ => exact q.elim
theorem pe_orW {a b : Expr} {rest : List Expr} {pos : Pos} {ra rb : Ro → Sto → Res D} (ha : PE X a (tE X.K cl m W ra)) (hb : PE X (.BoolOp .Or (b :: rest) pos) (tE X.K cl m W rb)) :
    PE X (.BoolOp .Or (a :: b :: rest) pos) (tE X.K cl m W fun ρ S => (ra ρ S).bind fun x S => match x with
      | .bl true => .ok (.bl true) S
      | .bl false => rb ρ S
      | _ => .bad) := by
  refine PE.imp (pe_or ha hb) fun σ H Q h => ?_
  obtain ⟨ρ, S, ι, g, hp⟩ := h
  refine ⟨ρ, S, ι, g, Pst.of_bind hp fun d S1 v H1 ι1 _ st rs rv q => ?_⟩
  cases d with
  | bl c =>
    cases c with
    | false => exact ⟨false, rv_bl rv, ρ, S1, ι1, g.step st rs, q⟩
    | true => exact ⟨true, rv_bl rv, Pst.here q rs (by simp [RV])⟩
  | _ => exact q.elim
theorem pe_notW {a : Expr} {pos : Pos} {ra : Ro → Sto → Res D} (ha : PE X a (tE X.K cl m W ra)) :
    PE X (.UnaryOp .Not a pos) (tE X.K cl m W fun ρ S => (ra ρ S).bind fun x S => match x with
      | .bl k => .ok (.bl (!k)) S
      | _ => .bad) := by
  refine PE.imp (pe_not ha) fun σ H Q h => ?_
  refine t_one (P := fun x H1 Q => ∃ c, x = .bl c ∧ Q (.bl (!c)) H1) h fun d S ι H v rs rv q => ?_
  cases d with
  | bl c => exact ⟨c, rv_bl rv, Pst.here q rs (by simp [RV])⟩
  | _ => exact q.elim
theorem pe_negW {a : Expr} {pos : Pos} {ra : Ro → Sto → Res D} (ha : PE X a (tE X.K cl m W ra)) :
    PE X (.UnaryOp .USub a pos) (tE X.K cl m W fun ρ S => (ra ρ S).bind fun x S => match x with
      | .int i => .ok (.int (-i)) S
      | _ => .bad) := by
  refine PE.imp (pe_un un_neg ha) fun σ H Q h => ?_
  refine t_one (P := fun x H1 Q => rU (fun i => .int (-i)) x H1 Q) h fun d S ι H v rs rv q => ?_
  cases d with
  | int c => exact ⟨c, rv_int rv, Pst.here q rs (by simp [RV])⟩
  | _ => exact q.elim
/-! ### subscripts -/
theorem plainIx_of {y : Expr} (h : (match y with
    | .Slice .. => false
    | _ => true) = true) : PlainIx y := by
  intro o i
  cases y <;> first | rfl | cases h
theorem po_W {e : Expr} {re : Ro → Sto → Res D} (he : PE X e (tE X.K cl m W re)) : PO X (some e) (tP X.K cl m W fun ρ S => (re ρ S).bind fun x S => match x with
    | .int i => .ok (some i) S
    | _ => .bad) := by
  refine PO.imp (po_some he) fun σ H Q h => ?_
  obtain ⟨ρ, S, ι, g, hp⟩ := h
  refine ⟨ρ, S, ι, g, Pst.of_bind hp fun d S1 v H1 ι1 _ st rs rv q => ?_⟩
  cases d with
  | int c => exact ⟨c, rv_int rv, Pst.here q rs rfl⟩
  | _ => exact q.elim
theorem po_nW : PO X none (tP X.K cl m W fun _ S => .ok none S) := PO.imp po_none fun σ H Q ⟨ρ, S, ι, g, hp⟩ => Pst.here hp g.2 rfl
theorem pe_cutW {e : Expr} {lo hi : Option Expr} {p2 pos : Pos} {ra : Ro → Sto → Res D} {rl rh : Ro → Sto → Res (Option Int)} (ha : PE X e (tE X.K cl m W ra)) (hl : PO X lo (tP X.K cl m W rl)) (hh : PO X hi (tP X.K cl m W rh)) :
    PE X (.Subscript e (.Slice lo hi none p2) pos) (tE X.K cl m W fun ρ S => (ra ρ S).bind fun x S => (rl ρ S).bind fun l S => (rh ρ S).bind fun h S => cutD S x l h) := by
  refine PE.imp (pe_slice (snd_cut (cl := cl) (m := m) (W := W)) ha hl hh) fun σ H Q h => ?_
  obtain ⟨ρ, S, ι, g, hp⟩ := h
  refine ⟨ρ, S, ι, g, Pst.of_bind hp fun d S1 v H1 ι1 _ st rs rv q => ?_⟩
  refine ⟨ρ, S1, ι1, g.step st rs, Pst.of_bind q fun d2 S2 v2 H2 ι2 _ st2 rs2 rv2 q2 => ?_⟩
  refine ⟨ρ, S2, ι2, (g.step st rs).step st2 rs2, Pst.of_bind q2 fun d3 S3 v3 H3 ι3 _ st3 rs3 rv3 q3 => ?_⟩
  obtain rfl : v2 = d2 := rv2
  obtain rfl : v3 = d3 := rv3
  exact ⟨d, S3, ι3, σ, rs3, RV.step st3 _ _ (RV.step st2 _ _ rv), q3⟩
end
end WL
end
section
set_option Elab.async false
set_option linter.all false
set_option maxRecDepth 100000
set_option maxHeartbeats 4000000
/-! WN: what is walked. -/
namespace WL
open PySem L2 L2H
section
variable {K : PySem.W.Frag} {cl : Cl} {m : Md} {W : WX} {σ : L2.St} {ι : Pls} {H : Hp} {R : It → Hp → Prop}
theorem PstI.of0 {α β : Type} {R1 : Hp → Pls → α → β → Prop} {Q : β → Hp → Prop} {r : Res α} {f : α → Sto → Res Wk} (h : PstI K cl m W σ ι H (r.bind f) R)
    (k : ∀ d S1 v H1 ι1, r = .ok d S1 → Step ι H ι1 H1 → RS K cl m H1 ι1 S1 → R1 H1 ι1 d v → PstI K cl m W σ ι H (f d S1) R → Q v H1) : Pst K cl m W R1 σ ι H r Q := by
  cases r with
  | ok d S1 => exact fun v H1 ι1 st rs rv => k d S1 v H1 ι1 rfl st rs rv h
  | exc c fs S1 => exact h
  | bad => exact h
theorem PstI.ite {c : Prop} [Decidable c] {r : Res Wk} (h : PstI K cl m W σ ι H (if c then r else .bad) R) : c ∧ PstI K cl m W σ ι H r R := by
  split at h
  · exact ⟨‹c›, h⟩
  · exact h.elim
theorem wlk_enum {ds : List D} {hd : List (Nat × List D)} {a : Addr} (w : Wlk K cl m ⟨ds, hd⟩ ι H (Itl K a)) : Wlk K cl m ⟨ds.mapIdx fun (i : Nat) x => .tup [.int i, x], hd⟩ ι H (Ite K a) where
  goes := fun i ι' H' S hi st r hh => by
    have hi : i < (ds.mapIdx fun (i : Nat) x => D.tup [.int i, x]).length := hi
    rw [List.length_mapIdx] at hi
    exact w.goes i ι' H' S hi st r hh
  stops := fun ι' H' S st r hh => by
    show (Ite K a).stop (ds.mapIdx fun (i : Nat) x => D.tup [.int i, x]).length H'
    rw [List.length_mapIdx]
    exact w.stops ι' H' S st r hh
  yields := fun i ι' H' S x H2 d hd' st r hh y => by
    have hd' : (ds.mapIdx fun (i : Nat) x => D.tup [.int i, x])[i]? = some d := hd'
    rw [List.getElem?_mapIdx] at hd'
    obtain ⟨d0, h1, rfl⟩ := Option.map_eq_some_iff.mp hd'
    obtain ⟨T, x0, rfl, nT, rfl, y2⟩ := y
    obtain ⟨_, rv⟩ := w.yields i ι' H' S x0 H' d0 h1 st r hh ⟨rfl, y2⟩
    refine ⟨upd_same_of nT, rv_tup_of (SqT.of upd_same) (RVs.step (Step.fresh nT) _ _ ?_)⟩
    exact rvs_cons (by simp [RV]) (rvs_cons rv rvs_nil)
theorem lst_ok {S0 S1 : Sto} {H0 : Hp} {ι0 : Pls} {v : D} {x : V} {R : It → Hp → Prop} {f : Wk → Wk} (r0 : RS K cl m H0 ι0 S0) (st : Step ι0 H0 ι H) (r : RS K cl m H ι S1) (hv : RV K H ι v x) (h : PstI K cl m W σ ι0 H0 ((wkLst S0 v S1).bind fun w S => .ok (f w) S) R) :
    ∃ a xs, x = .ref a ∧ SqL K H a xs ∧ ∃ ι' S' w, wkLst S0 v S1 = .ok w S' ∧ Step ι0 H0 ι' H ∧ RS K cl m H ι' S' ∧ Wlk K cl m w ι' H (Itl K a) := by
  cases v with
  | ref l =>
    obtain ⟨⟨a, b⟩, rfl, ha⟩ := rv_ref hv
    simp only [wkLst, wkSeq] at h ⊢
    cases hs : S1[l]? with
    | none => rw [hs] at h; exact h.elim
    | some o =>
      rw [hs] at h
      cases o with
      | lst ds =>
        obtain ⟨hb, vs, h1, h2⟩ := r.lst ha hs
        simp only at hb
        subst hb
        refine ⟨a, vs, rfl, SqL.of h1, ?_⟩
        simp only
        split
        · rename_i hc
          obtain ⟨c1, c2, c3, c4⟩ := hc
          have q := RS.take (n := S0.length) r (low_old (H' := H) (ι' := ι) r0 c4)
          have e : ι.take S0.length = ι0 := by
            rw [← r0.len]
            exact Step.cut (S := S0) st
          rw [e] at q
          have st2 : Step ι0 H0 ι0 H := ⟨⟨[], by simp⟩, fun _ _ h => .inl (List.getElem?_eq_some_iff.mp h).1, st.keep, st.there⟩
          have rv2 := RVs.takeL h2 c2
          rw [e] at rv2
          refine ⟨ι0, _, _, rfl, st2, q, wlk_free h1 (fun mm => ?_) rv2⟩
          obtain ⟨j, hj, hq⟩ := List.getElem_of_mem mm
          have e1 : ι[j]? = some (a, true) := st.get (by rw [List.getElem?_eq_getElem hj, hq])
          have := r.nd j l a e1 ha
          have h0 := r0.len
          omega
        · exact ⟨ι, _, _, rfl, st, r, wlk_list ha⟩
      | rls ds =>
        obtain ⟨_, vs, h1, h2⟩ := r.at_ l _ _ ha hs
        exact ⟨a, vs, rfl, h1.seq, ι, _, _, rfl, st, r, wlk_list ha⟩
      | _ => exact h.elim
  | _ => exact h.elim
end
section
variable {pg : Pg} {cl : Cl} {ck : Ck} {m : Md} {k : Nat} {call : Str → List D → Sto → Res D} {sc : Sc} {W : WX} {X : Cx} {tg : Expr}
theorem pi_seqW {e : Expr} {ra : Ro → Sto → Res D} (ha : PE X e (tE X.K cl m W ra)) : PI X tg e (tI X.K cl m W fun ρ S => (ra ρ S).bind fun v S1 => wkSeq S v S1) := by
  refine PI.imp (pi_any ha) fun σ H R h => ?_
  obtain ⟨ρ, S, ι, g, hp⟩ := h
  exact ⟨ρ, S, ι, g, PstI.of0 hp fun d S1 v H1 ι1 _ st rs rv q => seq_ok g.2 st rs rv q⟩
noncomputable def rng1R (ra : Ro → Sto → Res D) : Ro → Sto → Res Wk := fun ρ S => (ra ρ S).bind fun v S => match v with
  | .int j => if j ≤ 1000000 ∧ -(2 ^ 62) ≤ j then .ok ⟨rangeD 0 j, []⟩ S else .bad
  | _ => .bad
theorem rng1_of {K : PySem.W.Frag} {ra : Ro → Sto → Res D} {σ : L2.St} {H : Hp} {R : It → Hp → Prop} (h : tI K cl m W (rng1R ra) σ H R) :
    iRng1 (tA K cl m W fun ρ S => (ra ρ S).bind fun x S => (Res.ok [] S).bind fun xs S => .ok (x :: xs) S) σ H R := by
  obtain ⟨ρ, S, ι, g, hp⟩ := h
  refine ⟨ρ, S, ι, g, ?_⟩
  unfold rng1R at hp
  show PstA K cl m W σ ι H ((ra ρ S).bind fun x S => (Res.ok [] S).bind fun xs S => .ok (x :: xs) S) _
  cases hr : ra ρ S with
  | ok d S1 =>
    rw [hr] at hp
    intro vs H1 ι1 st rs rvs
    obtain ⟨v, rfl, rv⟩ := one_rv rvs
    cases d with
    | int j =>
      obtain ⟨⟨h1, h2⟩, hp⟩ := PstI.ite hp
      refine ⟨j, by rw [rv_int rv], h2, by omega, ?_⟩
      have := hp (Itr 0 (j - 0).toNat) H1 ι1 st rs wlk_rng
      simpa using this
    | _ => exact hp.elim
  | exc c fs S1 => rw [hr] at hp; exact hp
  | bad => rw [hr] at hp; exact hp
noncomputable def rng2R (ra rb : Ro → Sto → Res D) : Ro → Sto → Res Wk := fun ρ S => (ra ρ S).bind fun v S => (rb ρ S).bind fun u S => match v, u with
  | .int i, .int j => if -1000000 ≤ i ∧ i ≤ 1000000 ∧ j ≤ 1000000 ∧ -1000000 ≤ j then .ok ⟨rangeD i j, []⟩ S else .bad
  | _, _ => .bad
theorem rng2_of {K : PySem.W.Frag} {ra rb : Ro → Sto → Res D} {σ : L2.St} {H : Hp} {R : It → Hp → Prop} (h : tI K cl m W (rng2R ra rb) σ H R) :
    iRng2 (tA K cl m W fun ρ S => (ra ρ S).bind fun x S => ((rb ρ S).bind fun x S => (Res.ok [] S).bind fun xs S => .ok (x :: xs) S).bind fun xs S => .ok (x :: xs) S) σ H R := by
  obtain ⟨ρ, S, ι, g, hp⟩ := h
  refine ⟨ρ, S, ι, g, ?_⟩
  unfold rng2R at hp
  show PstA K cl m W σ ι H ((ra ρ S).bind fun x S => ((rb ρ S).bind fun x S => (Res.ok [] S).bind fun xs S => .ok (x :: xs) S).bind fun xs S => .ok (x :: xs) S) _
  cases hr : ra ρ S with
  | ok d S1 =>
    rw [hr] at hp
    simp only [bind_ok] at hp ⊢
    cases hr2 : rb ρ S1 with
    | ok d2 S2 =>
      rw [hr2] at hp
      intro vs H1 ι1 st rs rvs
      obtain ⟨v, u, rfl, rv, ru⟩ := two_rv rvs
      cases d with
      | int i =>
        cases d2 with
        | int j =>
          obtain ⟨⟨h1, h2, h3, h4⟩, hp⟩ := PstI.ite hp
          exact ⟨i, j, by rw [rv_int rv, rv_int ru], ⟨by omega, by omega, by omega, by omega⟩, hp (Itr i (j - i).toNat) H1 ι1 st rs wlk_rng⟩
        | _ => exact hp.elim
      | _ => exact hp.elim
    | exc c fs S1 => rw [hr2] at hp; exact hp
    | bad => rw [hr2] at hp; exact hp
  | exc c fs S1 => rw [hr] at hp; exact hp
  | bad => rw [hr] at hp; exact hp
theorem pih_imp {e : Expr} {t t' : TI} (h : PIH X tg e t) (f : ∀ σ H Q, t' σ H Q → t σ H Q) : PIH X tg e t' := ⟨fun pins s σ H R I q => h.run pins s σ H R I (f σ H R q)⟩
noncomputable def enumR (ra : Ro → Sto → Res D) : Ro → Sto → Res Wk := fun ρ S => (ra ρ S).bind fun v S1 => (wkLst S v S1).bind fun w S => .ok ⟨w.items.mapIdx fun (i : Nat) x => .tup [.int i, x], w.hold⟩ S
theorem pi_enumW {e : Expr} {ra : Ro → Sto → Res D} {elts : List Expr} {kk : Nat} {p pos tpos : Pos} (hg : Gl X "enumerate") (hm : X.mg "enumerate" = none) (ha : PA X [e] (tA X.K cl m W fun ρ S => (ra ρ S).bind fun x S => (Res.ok [] S).bind fun xs S => .ok (x :: xs) S)) (hs : isStar e = false) :
    PI X (.Tuple elts kk tpos) (.Call (.Name "enumerate" p) [e] [] pos) (tI X.K cl m W (enumR ra)) := by
  refine PI.imp (pi_enum hg hm ha (star_of hs)) fun σ H R h => ?_
  obtain ⟨ρ, S, ι, g, hp⟩ := h
  refine ⟨ρ, S, ι, g, ?_⟩
  unfold enumR at hp
  show PstA X.K cl m W σ ι H ((ra ρ S).bind fun x S => (Res.ok [] S).bind fun xs S => .ok (x :: xs) S) _
  cases hr : ra ρ S with
  | ok d S1 =>
    rw [hr] at hp
    intro vs H1 ι1 st rs rvs
    obtain ⟨v, rfl, rv⟩ := one_rv rvs
    obtain ⟨a, xs, rfl, h1, ι', S', w, h2, st', rs', wk⟩ := lst_ok (f := fun w => ⟨w.items.mapIdx fun (i : Nat) x => .tup [.int i, x], w.hold⟩) g.2 st rs rv hp
    refine ⟨a, xs, rfl, h1, ?_⟩
    have hp : PstI X.K cl m W σ ι H ((wkLst S d S1).bind fun w S => .ok ⟨w.items.mapIdx fun (i : Nat) x => .tup [.int i, x], w.hold⟩ S) R := hp
    rw [h2] at hp
    exact hp _ H1 ι' st' rs' (wlk_enum wk)
  | exc c fs S1 => rw [hr] at hp; exact hp
  | bad => rw [hr] at hp; exact hp
end
end WL
end
section
set_option Elab.async false
set_option linter.all false
set_option maxRecDepth 100000
set_option maxHeartbeats 4000000
/-! WO: every expression that the checker takes. -/
namespace WL
open PySem L2 L2H
section
variable {pg : Pg} {cl : Cl} {ck : Ck} {m : Md} {k : Nat} {call : Str → List D → Sto → Res D} {sc : Sc} {W : WX} {X : Cx}
theorem ck_star {a : Ex} {e : Expr} (h : ckE ck sc a e = true) : isStar e = false := by
  cases e with
  | Starred x p => cases a <;> first | (simp [ckE, xCst, xName, xUn, xBin, xCmp, xBool, xTup, xLst, xSub, xCall, xAttr, xComp] at h; done)
  | _ => rfl
theorem ck_set {a : Ex} {e : Expr} {env : Env} {x : Value} (h : ckE ck sc a e = true) : foldedSetIterable e env x = pure x := by
  cases e with
  | Set es j p => cases a <;> first | (simp [ckE, xCst, xName, xUn, xBin, xCmp, xBool, xTup, xLst, xSub, xCall, xAttr, xComp] at h; done)
  | _ => rfl
theorem ckI_set {it : Iw} {e : Expr} {b : Bool} {env : Env} {x : Value} (h : ckI ck sc b it e = true) : foldedSetIterable e env x = pure x := by
  cases it with
  | seq a =>
    simp only [ckI, Bool.and_eq_true] at h
    exact ck_set h.2
  | _ =>
    cases e <;> first | rfl | (simp [ckI, xCall] at h; done)
theorem takes_no {Y : Cx} : L2N.Takes Y WF0 := fun u s' ⟨_, _, _, _, _, _, _, _, _, _, _, _, _, _, _, _, w⟩ => w.elim
theorem XOk.blk (O : XOk pg cl ck m k call sc W X) (hc : X.calm = true) (hm : m = none) {scope : Scope} (s : Shared) (H : Hp) (C : Addr) (l : List (Str × Addr)) (fp : List Addr) :
    XOk pg cl ck m k call ⟨relS scope sc.vis, scope⟩ WF0 (X.blk s H scope (compEnvC scope l C X.env) fp) where
  N := O.N
  nd := O.nd
  scope := by
    show relabel scope X.env = relS scope sc.vis
    rw [← O.scope]
    rfl
  fn := fun x h => by
    show (scope.names.lookup x == some .cell) = true
    rw [show scope.names.lookup x = some .cell from h]
    rfl
  takes := takes_no
  room := O.room
  mode := by
    subst hm
    exact hc
  cold := O.cold
  free := O.free
  fns := O.fns
  cpg := O.cpg
  cls := O.cls
  exk := O.exk
  exa := O.exa
  con := O.con
theorem XOk.blkH (O : XOk pg cl ck m k call sc W X) {scope : Scope} {q : Addr × Str × Option Addr} (hm : m = some q) (s : Shared) (H : Hp) (C : Addr) (l : List (Str × Addr)) (fp : List Addr) :
    XOk pg cl ck m k call ⟨relS scope sc.vis, scope⟩ WF0 (WL.blkH X s H scope (compEnvC scope l C X.env) fp) where
  N := O.N
  nd := O.nd
  scope := by
    show relabel scope X.env = relS scope sc.vis
    rw [← O.scope]
    rfl
  fn := fun x h => by
    show (scope.names.lookup x == some .cell) = true
    rw [show scope.names.lookup x = some .cell from h]
    rfl
  takes := takes_no
  room := O.room
  mode := by
    have mo := O.mode
    subst hm
    exact mo
  cold := O.cold
  free := O.free
  fns := O.fns
  cpg := O.cpg
  cls := O.cls
  exk := O.exk
  exa := O.exa
  con := O.con
theorem evEs_len {ρ : Ro} : ∀ {as : Exs} {S S' : Sto} {ds : List D}, evEs pg call as ρ S = .ok ds S' → ds.length = exLen as
  | .nil, _, _, _, h => by
    simp only [evEs] at h
    cases h
    rfl
  | .cons a r, _, _, _, h => by
    simp only [evEs] at h
    obtain ⟨x, S1, _, h⟩ := bind_okE h
    obtain ⟨xs, S2, h2, h⟩ := bind_okE h
    cases h
    simp [exLen, evEs_len h2]
theorem ckEs_starless : ∀ {as : Exs} {es : List Expr}, ckEs ck sc as es = true → starless es = true
  | .nil, [], _ => rfl
  | .nil, _ :: _, h => by simp [ckEs] at h
  | .cons _ _, [], h => by simp [ckEs] at h
  | .cons a r, e :: es, h => by
    simp only [ckEs, Bool.and_eq_true] at h
    show (!isStar e && starless es) = true
    rw [ck_star h.1, ckEs_starless h.2]
    rfl
/-- an iterator's rule in both modes -/
def PIb (m : Md) (X : Cx) (tg : Expr) (e : Expr) (t : TI) : Prop := (m = none → PI X tg e t) ∧ (∀ q, m = some q → PIH X tg e t)
theorem hot_of (O : XOk pg cl ck m k call sc W X) {q : Addr × Str × Option Addr} (hm : m = some q) : HotC X := by
  have mo := O.mode
  subst hm
  obtain ⟨a, c, d⟩ := q
  obtain ⟨oe, vs, h1, h2, h3, h4⟩ := mo
  exact ⟨(a, oe), h1, h2⟩
theorem calm_of (O : XOk pg cl ck m k call sc W X) (hm : m = none) : X.calm = true := by
  have mo := O.mode
  subst hm
  exact mo
theorem nohot {q : Addr × Str × Option Addr} (O : XOk pg cl ck m k call sc W X) (hm : m = some q) (h : (!ck.hot) = true) : False := by
  have e := O.cold (by simpa using h)
  rw [hm] at e
  cases e
theorem isTup_eq {e : Expr} (h : isTup e = true) : ∃ es j p, e = .Tuple es j p := by
  cases e <;> first | exact ⟨_, _, _, rfl⟩ | cases h
end
def hnoC (ck : Ck) : Prop := ∀ c : Str, (c = "int" ∨ c = "bool" ∨ c = "str" ∨ c = "tuple") → ck.cls.contains c = false
theorem opEq_ok {a b : Operator} (h : opEq a b = true) : a = b := of_decide_eq_true h
theorem cmEq_ok {a b : CmpOp} (h : cmEq a b = true) : a = b := of_decide_eq_true h
section
variable (pg : Pg) (cl : Cl) (ck : Ck) (m : Md) (k : Nat) (call : Str → List D → Sto → Res D) (hno : hnoC ck)
def ME (a : Ex) : Prop := ∀ (sc : Sc) (W : WX) (X : Cx) (e : Expr), XOk pg cl ck m k call sc W X → ckE ck sc a e = true → PE X e (tE X.K cl m W (evE pg call a))
def MEs (as : Exs) : Prop := (∀ (sc : Sc) (W : WX) (X : Cx) (es : List Expr), XOk pg cl ck m k call sc W X → ckEs ck sc as es = true → PA X es (tA X.K cl m W (evEs pg call as))) ∧
  (∀ (sc : Sc) (W : WX) (X : Cx) (es : List Expr) (pos : Pos), XOk pg cl ck m k call sc W X → ckEs ck sc as es = true → PE X (.BoolOp .And es pos) (tE X.K cl m W (evAnd pg call as))) ∧
  (∀ (sc : Sc) (W : WX) (X : Cx) (es : List Expr) (pos : Pos), XOk pg cl ck m k call sc W X → ckEs ck sc as es = true → PE X (.BoolOp .Or es pos) (tE X.K cl m W (evOr pg call as)))
def MP (a : Pt) : Prop := ∀ (sc : Sc) (W : WX) (X : Cx) (e : Option Expr), XOk pg cl ck m k call sc W X → ckP ck sc a e = true → PO X e (tP X.K cl m W (evP pg call a))
def MT (a : Tx) : Prop := ∀ (sc : Sc) (W : WX) (X : Cx) (e : Expr), XOk pg cl ck m k call sc W X → ckT ck sc a e = true → PT X e (tT X.K cl m W (evT pg call a))
def MTs (as : Txs) : Prop := (∀ (sc : Sc) (W : WX) (X : Cx) (es : List Expr) (pos : Pos), XOk pg cl ck m k call sc W X → ckTs ck sc as es = true → PW X (.BoolOp .And es pos) (tT X.K cl m W (evTA pg call as))) ∧
  (∀ (sc : Sc) (W : WX) (X : Cx) (es : List Expr) (pos : Pos), XOk pg cl ck m k call sc W X → ckTs ck sc as es = true → PW X (.BoolOp .Or es pos) (tT X.K cl m W (evTO pg call as)))
def MI (it : Iw) : Prop := ∀ (sc : Sc) (W : WX) (X : Cx) (tg e : Expr), XOk pg cl ck m k call sc W X → ckI ck sc (isTup tg) it e = true → PIb m X tg e (tI X.K cl m W (evI pg call it))
theorem sndE_lit (d : D) : ME pg cl ck m k call (.lit d) := by
  intro sc W X e O h
  simp only [ckE] at h
  split at h
  · rename_i c hc
    obtain ⟨j, p, rfl⟩ := xCst_eq hc
    simp only [evE]
    exact pe_litW h
  · cases h
theorem sndE_loc (i : Nat) : ME pg cl ck m k call (.loc i) := by
  intro sc W X e O h
  simp only [ckE] at h
  split at h
  · rename_i x hx
    obtain ⟨p, rfl⟩ := xName_eq hx
    simp only [Bool.and_eq_true, decide_eq_true_eq] at h
    simp only [evE]
    exact pe_locW O h.1.1 h.1.2 h.2
  · cases h
theorem sndE_con (y : Str) (d : D) : ME pg cl ck m k call (.con y d) := by
  intro sc W X e O h
  simp only [ckE] at h
  split at h
  · rename_i x hx
    obtain ⟨p, rfl⟩ := xName_eq hx
    simp only [Bool.and_eq_true, decide_eq_true_eq] at h
    simp only [evE]
    obtain ⟨⟨rfl, h2⟩, h3⟩ := h
    exact pe_conW O h2 h3
  · cases h
theorem sndE_neg (a : Ex) (ih_a : ME pg cl ck m k call a) : ME pg cl ck m k call (.neg a) := by
  intro sc W X e O h
  simp only [ckE] at h
  split at h
  · rename_i x hx
    obtain ⟨p, rfl⟩ := xUn_eq hx
    simp only [evE]
    exact pe_negW (ih_a sc W X x O h)
  · cases h
theorem sndE_bin (o : BO) (a : Ex) (b : Ex) (ih_a : ME pg cl ck m k call a) (ih_b : ME pg cl ck m k call b) : ME pg cl ck m k call (.bin o a b) := by
  intro sc W X e O h
  simp only [ckE] at h
  split at h
  · rename_i x q y hx
    obtain ⟨p, rfl⟩ := xBin_eq hx
    simp only [Bool.and_eq_true] at h
    obtain rfl := opEq_ok h.1.1
    simp only [evE]
    exact PE.imp (pe_op (snd_bin (cl := cl) (m := m) (W := W) o) (ih_a sc W X x O h.1.2) (ih_b sc W X y O h.2)) fun σ H Q q => t_two q
  · cases h
theorem sndE_cmp (o : CO) (a : Ex) (b : Ex) (ih_a : ME pg cl ck m k call a) (ih_b : ME pg cl ck m k call b) : ME pg cl ck m k call (.cmp o a b) := by
  intro sc W X e O h
  simp only [ckE] at h
  split at h
  · rename_i x q y hx
    obtain ⟨p, rfl⟩ := xCmp_eq hx
    simp only [Bool.and_eq_true, Bool.not_eq_true'] at h
    obtain rfl := cmEq_ok h.1.1.1
    simp only [evE]
    exact PE.imp (pe_cmpR (snd_cmp (cl := cl) (m := m) (W := W) o O.units) (ih_a sc W X x O h.1.2) (ih_b sc W X y O h.2) h.1.1.2) fun σ H Q q => t_two q
  · cases h
theorem sndE_chn (o : CO) (o' : CO) (a : Ex) (b : Ex) (c : Ex) (ih_a : ME pg cl ck m k call a) (ih_b : ME pg cl ck m k call b) (ih_c : ME pg cl ck m k call c) : ME pg cl ck m k call (.chn o o' a b c) := by
  intro sc W X e O h
  simp only [ckE] at h
  split at h
  · rename_i x q q' y z hx
    obtain ⟨p, rfl⟩ := xCmp_eq hx
    simp only [Bool.and_eq_true, Bool.not_eq_true'] at h
    obtain rfl := cmEq_ok h.1.1.1.1.1
    obtain rfl := cmEq_ok h.1.1.1.1.2
    simp only [evE]
    exact pe_chnW O.units (ih_a sc W X x O h.1.1.2) (ih_b sc W X y O h.1.2) (ih_c sc W X z O h.2) h.1.1.1.2
  · cases h
theorem sndE_and (as : Exs) (ih_as : MEs pg cl ck m k call as) : ME pg cl ck m k call (.and as) := by
  intro sc W X e O h
  simp only [ckE] at h
  split at h
  · rename_i es hx
    obtain ⟨p, rfl⟩ := xBool_eq hx
    simp only [evE]
    exact ih_as.2.1 sc W X es p O h
  · cases h
theorem sndE_or (as : Exs) (ih_as : MEs pg cl ck m k call as) : ME pg cl ck m k call (.or as) := by
  intro sc W X e O h
  simp only [ckE] at h
  split at h
  · rename_i es hx
    obtain ⟨p, rfl⟩ := xBool_eq hx
    simp only [evE]
    exact ih_as.2.2 sc W X es p O h
  · cases h
theorem sndE_not (a : Ex) (ih_a : ME pg cl ck m k call a) : ME pg cl ck m k call (.not a) := by
  intro sc W X e O h
  simp only [ckE] at h
  split at h
  · rename_i x hx
    obtain ⟨p, rfl⟩ := xUn_eq hx
    simp only [evE]
    exact pe_notW (ih_a sc W X x O h)
  · cases h
theorem sndE_tup (as : Exs) (ih_as : MEs pg cl ck m k call as) : ME pg cl ck m k call (.tup as) := by
  intro sc W X e O h
  simp only [ckE] at h
  split at h
  · rename_i es hx
    obtain ⟨j, p, rfl⟩ := xTup_eq hx
    simp only [evE]
    exact pe_tupW (ih_as.1 sc W X es O h)
  · cases h
theorem sndE_lst (as : Exs) (ih_as : MEs pg cl ck m k call as) : ME pg cl ck m k call (.lst as) := by
  intro sc W X e O h
  simp only [ckE] at h
  split at h
  · rename_i es hx
    obtain ⟨p, rfl⟩ := xLst_eq hx
    simp only [evE]
    exact pe_lstW (ih_as.1 sc W X es O h)
  · cases h
theorem sndE_idx (a : Ex) (i : Ex) (ih_a : ME pg cl ck m k call a) (ih_i : ME pg cl ck m k call i) : ME pg cl ck m k call (.idx a i) := by
  intro sc W X e O h
  simp only [ckE] at h
  split at h
  · rename_i x y hx
    obtain ⟨p, rfl⟩ := xSub_eq hx
    simp only [Bool.and_eq_true] at h
    simp only [evE]
    exact PE.imp (pe_ix (snd_idx (cl := cl) (m := m) (W := W)) (ih_a sc W X x O h.1.2) (ih_i sc W X y O h.2) (plainIx_of h.1.1.2)) fun σ H Q q => t_two (f := idxR) q
  · cases h
theorem sndE_cut (a : Ex) (lo : Pt) (hi : Pt) (ih_a : ME pg cl ck m k call a) (ih_lo : MP pg cl ck m k call lo) (ih_hi : MP pg cl ck m k call hi) : ME pg cl ck m k call (.cut a lo hi) := by
  intro sc W X e O h
  simp only [ckE] at h
  split at h
  · rename_i x y hx
    obtain ⟨p, rfl⟩ := xSub_eq hx
    split at h
    · rename_i l u hy
      obtain ⟨p2, rfl⟩ := xSl_eq hy
      simp only [Bool.and_eq_true] at h
      simp only [evE]
      exact pe_cutW (ih_a sc W X x O h.1.1) (ih_lo sc W X l O h.1.2) (ih_hi sc W X u O h.2)
    · cases h
  · cases h
theorem sndE_call (f : Str) (as : Exs) (ih_as : MEs pg cl ck m k call as) : ME pg cl ck m k call (.call f as) := by
  intro sc W X e O h
  simp only [ckE] at h
  split at h
  · rename_i g es pp hx
    obtain rfl := xCall_eq hx
    split at h
    · rename_i x hg
      obtain ⟨p, rfl⟩ := xName_eq hg
      simp only [Bool.and_eq_true, decide_eq_true_eq] at h
      obtain ⟨⟨⟨⟨⟨⟨⟨h1, hh⟩, h2⟩, h3⟩, h4⟩, h5⟩, h6⟩, h7⟩ := h
      subst h1
      have ha := ih_as.1 sc W X es O h7
      cases es with
      | nil =>
        cases as with
        | nil => simp [exLen] at h5
        | cons _ _ => simp [ckEs] at h7
      | cons e0 es =>
        have h6' : (!isStar e0 && starless es) = true := h6
        simp only [Bool.and_eq_true, Bool.not_eq_true'] at h6'
        simp only [evE]
        exact pe_callW O h2 hh h3 h4 h6'.1 h6'.2 ha fun ρ S ds S' q => evEs_len q
    · cases h
  · cases h
theorem sndE_bif (f : BF) (as : Exs) (ih_as : MEs pg cl ck m k call as) : ME pg cl ck m k call (.bif f as) := by
  intro sc W X e O h
  simp only [ckE] at h
  split at h
  · rename_i g es pp hx
    obtain rfl := xCall_eq hx
    split at h
    · rename_i x hg
      obtain ⟨p, rfl⟩ := xName_eq hg
      simp only [Bool.and_eq_true, decide_eq_true_eq, Bool.or_eq_true, Bool.not_eq_true'] at h
      obtain ⟨⟨⟨⟨h1, h2⟩, h3⟩, h4⟩, h5⟩ := h
      obtain ⟨rfl, _, _⟩ := blt_ok O h1
      have ha := ih_as.1 sc W X es O h5
      cases es with
      | nil =>
        cases as with
        | nil => cases f <;> simp [exLen, bfAr] at h2
        | cons _ _ => simp [ckEs] at h5
      | cons e0 es =>
        have h6' : (!isStar e0 && starless es) = true := h4
        simp only [Bool.and_eq_true, Bool.not_eq_true'] at h6'
        simp only [evE]
        refine pe_bifW O h1 (fun hf => ?_) h6'.1 h6'.2 ha
        rcases h3 with h3 | h3
        · exact O.calm h3
        · rw [hf] at h3
          cases h3
    · cases h
  · cases h
theorem sndE_mth (mf : MF) (o : Ex) (as : Exs) (ih_o : ME pg cl ck m k call o) (ih_as : MEs pg cl ck m k call as) : ME pg cl ck m k call (.mth mf o as) := by
  intro sc W X e O h
  simp only [ckE] at h
  split at h
  · rename_i g es pp hx
    obtain rfl := xCall_eq hx
    split at h
    · rename_i y n q hg
      obtain rfl := xAttr_eq hg
      simp only [Bool.and_eq_true, decide_eq_true_eq] at h
      obtain ⟨⟨⟨⟨⟨⟨h1, h2⟩, h3⟩, h4⟩, h5⟩, h6⟩, h7⟩ := h
      subst h1
      have hb : noCall y = true := by
        cases y <;> first | rfl | cases h5
      have ho := ih_o sc W X y O h6
      have ha := ih_as.1 sc W X es O h7
      simp only [evE]
      cases as with
      | nil =>
        cases mf with
        | pop0 =>
          cases es with
          | nil => simp only [evEs]; exact pe_mth0W ho hb h4
          | cons _ _ => simp [ckEs] at h7
        | append => simp [exLen, mfAr] at h2
        | pop1 => simp [exLen, mfAr] at h2
      | cons a1 r =>
        cases r with
        | cons _ _ => cases mf <;> simp [exLen, mfAr] at h2
        | nil =>
          cases es with
          | nil => simp [ckEs] at h7
          | cons e1 es =>
            cases es with
            | cons _ _ => simp [ckEs] at h7
            | nil =>
              simp only [ckEs, Bool.and_true] at h7
              have hs := ck_star h7
              cases mf with
              | pop0 => simp [exLen, mfAr] at h2
              | append => exact pe_mth1W (mf := .append) (fun _ _ _ => rfl) PySem.F.slot_list_append PySem.F.type_list_append snd_append ho ha hb h4 hs
              | pop1 => exact pe_mth1W (mf := .pop1) (fun _ _ _ => rfl) PySem.F.slot_list_pop PySem.F.type_list_pop snd_pop1 ho ha hb h4 hs
    · cases h
  · cases h
theorem sndE_isi (hno : hnoC ck) (a : Ex) (cs : List Str) (t : Bool) (ih_a : ME pg cl ck m k call a) : ME pg cl ck m k call (.isi a cs t) := by
  intro sc W X e O h
  simp only [ckE] at h
  split at h
  · rename_i g y z pp hx
    obtain rfl := xCall_eq hx
    split at h
    · rename_i x hg
      obtain ⟨p, rfl⟩ := xName_eq hg
      simp only [Bool.and_eq_true, Bool.not_eq_true'] at h
      obtain ⟨⟨⟨⟨⟨h1, h2⟩, h3⟩, _⟩, h4⟩, h5⟩ := h
      obtain ⟨rfl, hm, hg2⟩ := blt_ok O h1
      split at h4
      · rename_i _ c c' hz
        obtain ⟨p3, rfl⟩ := xName_eq hz
        simp only [Bool.and_eq_true, decide_eq_true_eq] at h4
        obtain ⟨⟨⟨h6, h7⟩, h8⟩, h9⟩ := h4
        subst h6
        obtain ⟨cv, cu, hv, hpe⟩ := pe_clsW O (pos := p3) h7 h8 h9
        have ha := ih_a sc W X y O h5
        simp only [evE, isiDs]
        refine PE.imp (pe_callB (call_isW O hno) hg2 hm PyProof.Rows.boot_isinstance (pa_cons ha (pa_cons hpe pa_nil (star_of rfl)) (star_of h2)) (by decide) (by decide) (star_of h2) (by rw [star_of h3] <;> rfl)) fun σ H Q hq => ?_
        obtain ⟨ρ, S, ι, g, hp⟩ := hq
        refine ⟨ρ, S, ι, g, Pst.of_bind hp fun d S1 v H1 ι1 _ st rs rv q => ?_⟩
        obtain ⟨b, hb, q2⟩ := Pst.bind_of q
        show rI1 pg cl ck X.K m [v, cv] H1 Q
        split at hb
        · rename_i he
          cases hb
          exact ⟨d, c, S1, ι1, v, cv, cu, true, rfl, hv, rs, rv, he, Pst.here q2 rs (by simp [RV])⟩
        · rename_i he
          cases hb
          exact ⟨d, c, S1, ι1, v, cv, cu, false, rfl, hv, rs, rv, he, Pst.here q2 rs (by simp [RV])⟩
        · cases hb
      · cases h4
    · cases h
  · cases h
theorem sndE_fld (a : Ex) (f : Str) (ih_a : ME pg cl ck m k call a) : ME pg cl ck m k call (.fld a f) := by
  intro sc W X e O h
  simp only [ckE] at h
  split at h
  · rename_i y n p hx
    obtain rfl := xAttr_eq hx
    simp only [Bool.and_eq_true, decide_eq_true_eq] at h
    obtain ⟨⟨⟨h1, h2⟩, h3⟩, h4⟩ := h
    subst h1
    have hb : noCall y = true := by
      cases y <;> first | rfl | cases h3
    simp only [evE]
    exact pe_fldW O (ih_a sc W X y O h4) hb (List.contains_iff_mem.mp h2)
  · cases h
theorem sndE_comp (a : Ex) (t : Tg) (it : Iw) (c : Tx) (own : List Nat) (ih_a : ME pg cl ck m k call a) (ih_it : MI pg cl ck m k call it) (ih_c : MT pg cl ck m k call c) : ME pg cl ck m k call (.comp a t it c own) := by
  intro sc W X e O h
  simp only [ckE] at h
  split at h
  · rename_i x tg i cs s hx
    obtain ⟨p, rfl⟩ := xComp_eq hx
    simp only [Bool.and_eq_true, decide_eq_true_eq] at h
    obtain ⟨⟨⟨⟨⟨⟨h1, h2⟩, h3⟩, h4⟩, h5⟩, h6⟩, h7⟩ := h
    have ok : BlkOk X.N X.env.scope s (ownP ck.N own) := by
      rw [O.N, O.scope]
      exact blkOk_by h1
    have hsub : ∀ i ∈ tgIx t, i ∈ own := fun i hi => List.contains_iff_mem.mp (List.all_eq_true.mp h4 i hi)
    have hi := ih_it sc W X tg i O h5
    have body : ∀ (Y : Cx), Y.K = X.K → XOk pg cl ck m k call ⟨relS s sc.vis, s⟩ WF0 Y → PG Y tg (gT X.K t) ∧ PTs Y cs (tT X.K cl m WF0 (evT pg call c)) ∧ PE Y x (tE X.K cl m WF0 (evE pg call a)) := fun Y hK OY => by
      refine ⟨by rw [← hK]; exact pg_tg OY h3, ?_, by rw [← hK]; exact ih_a _ _ Y x OY h6⟩
      rw [← hK]
      cases cs with
      | nil =>
        have hy : c = .yes := by cases c <;> first | rfl | (simp [isYes] at h7; done)
        refine ⟨fun pins s σ H Q I hq => pts_nil.run pins s σ H Q I ?_⟩
        obtain ⟨ρ, S, ι, g, hp⟩ := hq
        rw [hy] at hp
        simp only [evT] at hp
        exact Pst.here hp g.2 rfl
      | cons z zs =>
        cases zs with
        | cons _ _ => cases h7
        | nil =>
          have h8 : ckT ck ⟨relS s sc.vis, s⟩ c z = true := h7
          exact pts_one (ih_c _ _ Y _ OY h8)
    simp only [evE]
    cases hm : m with
    | none =>
      have hp : PI X tg i (tI X.K cl m W (evI pg call it)) := hi.1 hm
      have b := fun (s' : Shared) (H : Hp) (C : Addr) (l : List (Str × Addr)) (fp : List Addr) => body (X.blk s' H s (compEnvC s l C X.env) fp) rfl (O.blk (calm_of O hm) hm (scope := s) s' H C l fp)
      rw [← hm]
      refine PE.imp (pe_lc (calm_of O hm) O.nd hp ok (fun s H C l fp => (b s H C l fp).1) (fun s H C l fp => (b s H C l fp).2.1) (fun s H C l fp => (b s H C l fp).2.2) fun v => ckI_set h5) fun σ H Q q => ?_
      rw [h2]
      exact lc_of hsub q
    | some q =>
      have hp : PIH X tg i (tI X.K cl m W (evI pg call it)) := hi.2 q hm
      have b := fun (s' : Shared) (H : Hp) (C : Addr) (l : List (Str × Addr)) (fp : List Addr) => body (WL.blkH X s' H s (compEnvC s l C X.env) fp) rfl (O.blkH hm (scope := s) s' H C l fp)
      rw [← hm]
      refine PE.imp (pe_lcH (hot_of O hm) O.nd hp ok (fun s H C l fp => b s H C l fp) fun v => ckI_set h5) fun σ H Q q => ?_
      rw [h2]
      exact lc_of hsub q
  · cases h
theorem sndEs_nil : MEs pg cl ck m k call .nil := by
  refine ⟨?_, ?_, ?_⟩
  · intro sc W X es O h
    cases es with
    | cons _ _ => simp [ckEs] at h
    | nil => simp only [evEs]; exact pa_nilW
  · exact fun sc W X es pos O h => ⟨fun pins s σ H Q I ⟨ρ, S, ι, g, hp⟩ => by
      simp only [evAnd] at hp
      exact hp.elim⟩
  · exact fun sc W X es pos O h => ⟨fun pins s σ H Q I ⟨ρ, S, ι, g, hp⟩ => by
      simp only [evOr] at hp
      exact hp.elim⟩
theorem sndEs_cons (a : Ex) (r : Exs) (ih_a : ME pg cl ck m k call a) (ih_r : MEs pg cl ck m k call r) : MEs pg cl ck m k call (.cons a r) := by
  refine ⟨?_, ?_, ?_⟩
  · intro sc W X es O h
    cases es with
    | nil => simp [ckEs] at h
    | cons e es =>
      simp only [ckEs, Bool.and_eq_true] at h
      simp only [evEs]
      exact pa_consW (ih_a sc W X e O h.1) (ih_r.1 sc W X es O h.2) (ck_star h.1)
  · intro sc W X es pos O h
    cases r with
    | nil =>
      cases es with
      | nil => simp [ckEs] at h
      | cons e es =>
        cases es with
        | cons _ _ => simp [ckEs] at h
        | nil =>
          simp only [ckEs, Bool.and_true] at h
          simp only [evAnd]
          exact pe_one (ih_a sc W X e O h)
    | cons b r =>
      cases es with
      | nil => simp [ckEs] at h
      | cons e es =>
        cases es with
        | nil => simp [ckEs] at h
        | cons e2 es =>
          have h' : (ckE ck sc a e && ckEs ck sc (.cons b r) (e2 :: es)) = true := by simpa only [ckEs] using h
          simp only [Bool.and_eq_true] at h'
          have q := pe_andW (ih_a sc W X e O h'.1) (ih_r.2.1 sc W X (e2 :: es) pos O h'.2)
          simp only [evAnd]
          exact q
  · intro sc W X es pos O h
    cases r with
    | nil =>
      cases es with
      | nil => simp [ckEs] at h
      | cons e es =>
        cases es with
        | cons _ _ => simp [ckEs] at h
        | nil =>
          simp only [ckEs, Bool.and_true] at h
          simp only [evOr]
          exact pe_one (ih_a sc W X e O h)
    | cons b r =>
      cases es with
      | nil => simp [ckEs] at h
      | cons e es =>
        cases es with
        | nil => simp [ckEs] at h
        | cons e2 es =>
          have h' : (ckE ck sc a e && ckEs ck sc (.cons b r) (e2 :: es)) = true := by simpa only [ckEs] using h
          simp only [Bool.and_eq_true] at h'
          have q := pe_orW (ih_a sc W X e O h'.1) (ih_r.2.2 sc W X (e2 :: es) pos O h'.2)
          simp only [evOr]
          exact q
theorem sndP_no : MP pg cl ck m k call .no := by
  intro sc W X e O h
  cases e with
  | some _ => simp [ckP] at h
  | none => simp only [evP]; exact po_nW
theorem sndP_at (a : Ex) (ih_a : ME pg cl ck m k call a) : MP pg cl ck m k call (.at a) := by
  intro sc W X e O h
  cases e with
  | none => simp [ckP] at h
  | some e =>
    simp only [ckP] at h
    simp only [evP]
    exact po_W (ih_a sc W X e O h)
theorem sndT_yes : MT pg cl ck m k call .yes := by
  intro sc W X e O h
  simp [ckT] at h
theorem sndT_and (as : Txs) (ih_as : MTs pg cl ck m k call as) : MT pg cl ck m k call (.and as) := by
  intro sc W X e O h
  simp only [ckT] at h
  split at h
  · rename_i es hx
    obtain ⟨p, rfl⟩ := xBool_eq hx
    simp only [evT]
    exact (ih_as.1 sc W X es p O h).pt
  · cases h
theorem sndT_or (as : Txs) (ih_as : MTs pg cl ck m k call as) : MT pg cl ck m k call (.or as) := by
  intro sc W X e O h
  simp only [ckT] at h
  split at h
  · rename_i es hx
    obtain ⟨p, rfl⟩ := xBool_eq hx
    simp only [evT]
    exact (ih_as.2 sc W X es p O h).pt
  · cases h
theorem sndT_not (a : Tx) (ih_a : MT pg cl ck m k call a) : MT pg cl ck m k call (.not a) := by
  intro sc W X e O h
  simp only [ckT] at h
  split at h
  · rename_i x hx
    obtain ⟨p, rfl⟩ := xUn_eq hx
    simp only [evT]
    exact pt_notW (ih_a sc W X x O h)
  · cases h
theorem sndTs_nil : MTs pg cl ck m k call .nil := by
  refine ⟨?_, ?_⟩
  · exact fun sc W X es pos O h => ⟨fun wh pins s σ H Q I ⟨ρ, S, ι, g, hp⟩ => by
      simp only [evTA] at hp
      exact hp.elim⟩
  · exact fun sc W X es pos O h => ⟨fun wh pins s σ H Q I ⟨ρ, S, ι, g, hp⟩ => by
      simp only [evTO] at hp
      exact hp.elim⟩
theorem sndTs_cons (a : Tx) (r : Txs) (ih_a : MT pg cl ck m k call a) (ih_r : MTs pg cl ck m k call r) : MTs pg cl ck m k call (.cons a r) := by
  refine ⟨?_, ?_⟩
  · intro sc W X es pos O h
    cases r with
    | nil =>
      cases es with
      | nil => simp [ckTs] at h
      | cons e es =>
        cases es with
        | cons _ _ => simp [ckTs] at h
        | nil =>
          simp only [ckTs, Bool.and_true] at h
          simp only [evTA]
          exact pw_and1 (ih_a sc W X e O h)
    | cons b r =>
      cases es with
      | nil => simp [ckTs] at h
      | cons e es =>
        cases es with
        | nil => simp [ckTs] at h
        | cons e2 es =>
          have h' : (ckT ck sc a e && ckTs ck sc (.cons b r) (e2 :: es)) = true := by simpa only [ckTs] using h
          simp only [Bool.and_eq_true] at h'
          have q := pw_andW (ih_a sc W X e O h'.1) (ih_r.1 sc W X (e2 :: es) pos O h'.2)
          simp only [evTA]
          exact q
  · intro sc W X es pos O h
    cases r with
    | nil =>
      cases es with
      | nil => simp [ckTs] at h
      | cons e es =>
        cases es with
        | cons _ _ => simp [ckTs] at h
        | nil =>
          simp only [ckTs, Bool.and_true] at h
          simp only [evTO]
          exact pw_or1 (ih_a sc W X e O h)
    | cons b r =>
      cases es with
      | nil => simp [ckTs] at h
      | cons e es =>
        cases es with
        | nil => simp [ckTs] at h
        | cons e2 es =>
          have h' : (ckT ck sc a e && ckTs ck sc (.cons b r) (e2 :: es)) = true := by simpa only [ckTs] using h
          simp only [Bool.and_eq_true] at h'
          have q := pw_orW (ih_a sc W X e O h'.1) (ih_r.2 sc W X (e2 :: es) pos O h'.2)
          simp only [evTO]
          exact q
theorem sndI_seq (a : Ex) (ih_a : ME pg cl ck m k call a) : MI pg cl ck m k call (.seq a) := by
  intro sc W X tg e O h
  simp only [ckI, Bool.and_eq_true] at h
  simp only [evI]
  exact ⟨fun _ => pi_seqW (ih_a sc W X e O h.2), fun q hm => (nohot O hm h.1).elim⟩
theorem sndI_rng1 (a : Ex) (ih_a : ME pg cl ck m k call a) : MI pg cl ck m k call (.rng1 a) := by
  intro sc W X tg e O h
  simp only [ckI] at h
  split at h
  · rename_i g y pp hx
    obtain rfl := xCall_eq hx
    split at h
    · rename_i x hg
      obtain ⟨p, rfl⟩ := xName_eq hg
      simp only [Bool.and_eq_true] at h
      obtain ⟨rfl, hm, hg⟩ := blt_ok O h.1
      have ha := pa_consW (ih_a sc W X y O h.2) pa_nilW (ck_star h.2)
      simp only [evI]
      exact ⟨fun _ => PI.imp (pi_range1 hg hm ha (star_of (ck_star h.2))) fun σ H R q => rng1_of q, fun _ _ => pih_imp (pi_range1H hg hm ha (star_of (ck_star h.2))) fun σ H R q => rng1_of q⟩
    · cases h
  · cases h
theorem sndI_rng2 (a : Ex) (b : Ex) (ih_a : ME pg cl ck m k call a) (ih_b : ME pg cl ck m k call b) : MI pg cl ck m k call (.rng2 a b) := by
  intro sc W X tg e O h
  simp only [ckI] at h
  split at h
  · rename_i g y z pp hx
    obtain rfl := xCall_eq hx
    split at h
    · rename_i x hg
      obtain ⟨p, rfl⟩ := xName_eq hg
      simp only [Bool.and_eq_true] at h
      obtain ⟨⟨h1, h2⟩, h3⟩ := h
      obtain ⟨rfl, hm, hg⟩ := blt_ok O h1
      have ha := pa_consW (ih_a sc W X y O h2) (pa_consW (ih_b sc W X z O h3) pa_nilW (ck_star h3)) (ck_star h2)
      have s2 : starEach [z] X.env = [(false, eval z X.env)] := star_of (ck_star h3)
      have s1 : starEach [y, z] X.env = [(false, eval y X.env), (false, eval z X.env)] := by rw [star_of (ck_star h2), s2]
      simp only [evI]
      refine ⟨fun _ => PI.imp (pi_range2 hg hm ha s1 s2) fun σ H R q => rng2_of q, fun _ _ => pih_imp (pi_range2H hg hm ha (star_of (ck_star h2)) (by rw [s2] <;> rfl)) fun σ H R q => rng2_of q⟩
    · cases h
  · cases h
theorem sndI_enum (a : Ex) (ih_a : ME pg cl ck m k call a) : MI pg cl ck m k call (.enum a) := by
  intro sc W X tg e O h
  simp only [ckI] at h
  split at h
  · rename_i g y pp hx
    obtain rfl := xCall_eq hx
    split at h
    · rename_i x hg
      obtain ⟨p, rfl⟩ := xName_eq hg
      simp only [Bool.and_eq_true] at h
      obtain ⟨⟨⟨h1, h2⟩, h3⟩, h4⟩ := h
      obtain ⟨rfl, hm, hg⟩ := blt_ok O h3
      obtain ⟨es, j, tp, rfl⟩ := isTup_eq h2
      have ha := pa_consW (ih_a sc W X y O h4) pa_nilW (ck_star h4)
      simp only [evI]
      exact ⟨fun _ => pi_enumW hg hm ha (ck_star h4), fun q hq => (nohot O hq h1).elim⟩
    · cases h
  · cases h
theorem sndI_zip (a : Ex) (b : Ex) (ih_a : ME pg cl ck m k call a) (ih_b : ME pg cl ck m k call b) : MI pg cl ck m k call (.zip a b) := by
  intro sc W X tg e O h
  simp only [ckI] at h
  cases h
def MC (a : Ex) : Prop := isCmp a = true → ∀ (sc : Sc) (W : WX) (X : Cx) (e : Expr), XOk pg cl ck m k call sc W X → ckE ck sc a e = true → PT X e (tT X.K cl m W fun ρ S => (evE pg call a ρ S).bind fun x S => Res.of (truth S x) S)
theorem sndC_cmp (o : CO) (a b : Ex) (ih_a : ME pg cl ck m k call a) (ih_b : ME pg cl ck m k call b) : MC pg cl ck m k call (.cmp o a b) := by
  intro _ sc W X e O h1
  simp only [ckE] at h1
  split at h1
  · rename_i x q y hx
    obtain ⟨p, rfl⟩ := xCmp_eq hx
    simp only [Bool.and_eq_true, Bool.not_eq_true'] at h1
    obtain rfl := cmEq_ok h1.1.1.1
    simp only [evE]
    exact pt_cmpW O.units (ih_a sc W X x O h1.1.2) (ih_b sc W X y O h1.2) h1.1.1.2
  · cases h1
theorem sndC_chn (o o' : CO) (a b c : Ex) (ih_a : ME pg cl ck m k call a) (ih_b : ME pg cl ck m k call b) (ih_c : ME pg cl ck m k call c) : MC pg cl ck m k call (.chn o o' a b c) := by
  intro _ sc W X e O h1
  simp only [ckE] at h1
  split at h1
  · rename_i x q q' y z hx
    obtain ⟨p, rfl⟩ := xCmp_eq hx
    simp only [Bool.and_eq_true, Bool.not_eq_true'] at h1
    obtain rfl := cmEq_ok h1.1.1.1.1.1
    obtain rfl := cmEq_ok h1.1.1.1.1.2
    simp only [evE]
    exact pt_chnW O.units (ih_a sc W X x O h1.1.1.2) (ih_b sc W X y O h1.1.2) (ih_c sc W X z O h1.2) h1.1.1.1.2
  · cases h1
theorem sndT_val (a : Ex) (ih_a : ME pg cl ck m k call a ∧ MC pg cl ck m k call a) : MT pg cl ck m k call (.val a) := by
  intro sc W X e O h
  simp only [ckT, Bool.and_eq_true, Bool.or_eq_true] at h
  obtain ⟨h1, h2⟩ := h
  simp only [evT]
  rcases h2 with h2 | h2
  · exact ih_a.2 h2 sc W X e O h1
  · exact pt_valW (ih_a.1 sc W X e O h1) h2
def M1 (a : Ex) : Prop := ME pg cl ck m k call a ∧ MC pg cl ck m k call a
theorem snd_all (hno : hnoC ck) : (∀ a, M1 pg cl ck m k call a) ∧ (∀ a, MP pg cl ck m k call a) ∧ (∀ a, MT pg cl ck m k call a) ∧ (∀ a, MTs pg cl ck m k call a) ∧ (∀ a, MEs pg cl ck m k call a) ∧ (∀ a, MI pg cl ck m k call a) := by
  have nc : ∀ {a : Ex}, isCmp a = false → ME pg cl ck m k call a → M1 pg cl ck m k call a := fun h1 h2 => ⟨h2, fun z => by rw [h1] at z; cases z⟩
  refine ⟨?_, ?_, ?_, ?_, ?_, ?_⟩
  · refine @Ex.rec (M1 pg cl ck m k call) (MP pg cl ck m k call) (MT pg cl ck m k call) (MTs pg cl ck m k call) (MEs pg cl ck m k call) (MI pg cl ck m k call)
      (fun d => nc rfl (sndE_lit _ _ _ _ _ _ d)) (fun i => nc rfl (sndE_loc _ _ _ _ _ _ i)) (fun y d => nc rfl (sndE_con _ _ _ _ _ _ y d)) (fun a h => nc rfl (sndE_neg _ _ _ _ _ _ a h.1))
      (fun o a b h h2 => nc rfl (sndE_bin _ _ _ _ _ _ o a b h.1 h2.1)) (fun o a b h h2 => ⟨sndE_cmp _ _ _ _ _ _ o a b h.1 h2.1, sndC_cmp _ _ _ _ _ _ o a b h.1 h2.1⟩)
      (fun o p a b c h h2 h3 => ⟨sndE_chn _ _ _ _ _ _ o p a b c h.1 h2.1 h3.1, sndC_chn _ _ _ _ _ _ o p a b c h.1 h2.1 h3.1⟩)
      (fun as h => nc rfl (sndE_and _ _ _ _ _ _ as h)) (fun as h => nc rfl (sndE_or _ _ _ _ _ _ as h)) (fun a h => nc rfl (sndE_not _ _ _ _ _ _ a h.1)) (fun as h => nc rfl (sndE_tup _ _ _ _ _ _ as h)) (fun as h => nc rfl (sndE_lst _ _ _ _ _ _ as h))
      (fun a i h h2 => nc rfl (sndE_idx _ _ _ _ _ _ a i h.1 h2.1)) (fun a lo hi h h2 h3 => nc rfl (sndE_cut _ _ _ _ _ _ a lo hi h.1 h2 h3)) (fun f as h => nc rfl (sndE_call _ _ _ _ _ _ f as h)) (fun f as h => nc rfl (sndE_bif _ _ _ _ _ _ f as h))
      (fun mf o as h h2 => nc rfl (sndE_mth _ _ _ _ _ _ mf o as h.1 h2)) (fun a cs t h => nc rfl (sndE_isi _ _ _ _ _ _ hno a cs t h.1)) (fun a f h => nc rfl (sndE_fld _ _ _ _ _ _ a f h.1))
      (fun a t it c own h h2 h3 => nc rfl (sndE_comp _ _ _ _ _ _ a t it c own h.1 h2 h3))
      (sndP_no _ _ _ _ _ _) (fun a h => sndP_at _ _ _ _ _ _ a h.1)
      (sndT_yes _ _ _ _ _ _) (fun a h => sndT_val _ _ _ _ _ _ a h) (fun as h => sndT_and _ _ _ _ _ _ as h) (fun as h => sndT_or _ _ _ _ _ _ as h) (fun a h => sndT_not _ _ _ _ _ _ a h)
      (sndTs_nil _ _ _ _ _ _) (fun a r h h2 => sndTs_cons _ _ _ _ _ _ a r h h2)
      (sndEs_nil _ _ _ _ _ _) (fun a r h h2 => sndEs_cons _ _ _ _ _ _ a r h.1 h2)
      (fun a h => sndI_seq _ _ _ _ _ _ a h.1) (fun a h => sndI_rng1 _ _ _ _ _ _ a h.1) (fun a b h h2 => sndI_rng2 _ _ _ _ _ _ a b h.1 h2.1) (fun a h => sndI_enum _ _ _ _ _ _ a h.1) (fun a b h h2 => sndI_zip _ _ _ _ _ _ a b h.1 h2.1)
  · refine @Pt.rec (M1 pg cl ck m k call) (MP pg cl ck m k call) (MT pg cl ck m k call) (MTs pg cl ck m k call) (MEs pg cl ck m k call) (MI pg cl ck m k call)
      (fun d => nc rfl (sndE_lit _ _ _ _ _ _ d)) (fun i => nc rfl (sndE_loc _ _ _ _ _ _ i)) (fun y d => nc rfl (sndE_con _ _ _ _ _ _ y d)) (fun a h => nc rfl (sndE_neg _ _ _ _ _ _ a h.1))
      (fun o a b h h2 => nc rfl (sndE_bin _ _ _ _ _ _ o a b h.1 h2.1)) (fun o a b h h2 => ⟨sndE_cmp _ _ _ _ _ _ o a b h.1 h2.1, sndC_cmp _ _ _ _ _ _ o a b h.1 h2.1⟩)
      (fun o p a b c h h2 h3 => ⟨sndE_chn _ _ _ _ _ _ o p a b c h.1 h2.1 h3.1, sndC_chn _ _ _ _ _ _ o p a b c h.1 h2.1 h3.1⟩)
      (fun as h => nc rfl (sndE_and _ _ _ _ _ _ as h)) (fun as h => nc rfl (sndE_or _ _ _ _ _ _ as h)) (fun a h => nc rfl (sndE_not _ _ _ _ _ _ a h.1)) (fun as h => nc rfl (sndE_tup _ _ _ _ _ _ as h)) (fun as h => nc rfl (sndE_lst _ _ _ _ _ _ as h))
      (fun a i h h2 => nc rfl (sndE_idx _ _ _ _ _ _ a i h.1 h2.1)) (fun a lo hi h h2 h3 => nc rfl (sndE_cut _ _ _ _ _ _ a lo hi h.1 h2 h3)) (fun f as h => nc rfl (sndE_call _ _ _ _ _ _ f as h)) (fun f as h => nc rfl (sndE_bif _ _ _ _ _ _ f as h))
      (fun mf o as h h2 => nc rfl (sndE_mth _ _ _ _ _ _ mf o as h.1 h2)) (fun a cs t h => nc rfl (sndE_isi _ _ _ _ _ _ hno a cs t h.1)) (fun a f h => nc rfl (sndE_fld _ _ _ _ _ _ a f h.1))
      (fun a t it c own h h2 h3 => nc rfl (sndE_comp _ _ _ _ _ _ a t it c own h.1 h2 h3))
      (sndP_no _ _ _ _ _ _) (fun a h => sndP_at _ _ _ _ _ _ a h.1)
      (sndT_yes _ _ _ _ _ _) (fun a h => sndT_val _ _ _ _ _ _ a h) (fun as h => sndT_and _ _ _ _ _ _ as h) (fun as h => sndT_or _ _ _ _ _ _ as h) (fun a h => sndT_not _ _ _ _ _ _ a h)
      (sndTs_nil _ _ _ _ _ _) (fun a r h h2 => sndTs_cons _ _ _ _ _ _ a r h h2)
      (sndEs_nil _ _ _ _ _ _) (fun a r h h2 => sndEs_cons _ _ _ _ _ _ a r h.1 h2)
      (fun a h => sndI_seq _ _ _ _ _ _ a h.1) (fun a h => sndI_rng1 _ _ _ _ _ _ a h.1) (fun a b h h2 => sndI_rng2 _ _ _ _ _ _ a b h.1 h2.1) (fun a h => sndI_enum _ _ _ _ _ _ a h.1) (fun a b h h2 => sndI_zip _ _ _ _ _ _ a b h.1 h2.1)
  · refine @Tx.rec (M1 pg cl ck m k call) (MP pg cl ck m k call) (MT pg cl ck m k call) (MTs pg cl ck m k call) (MEs pg cl ck m k call) (MI pg cl ck m k call)
      (fun d => nc rfl (sndE_lit _ _ _ _ _ _ d)) (fun i => nc rfl (sndE_loc _ _ _ _ _ _ i)) (fun y d => nc rfl (sndE_con _ _ _ _ _ _ y d)) (fun a h => nc rfl (sndE_neg _ _ _ _ _ _ a h.1))
      (fun o a b h h2 => nc rfl (sndE_bin _ _ _ _ _ _ o a b h.1 h2.1)) (fun o a b h h2 => ⟨sndE_cmp _ _ _ _ _ _ o a b h.1 h2.1, sndC_cmp _ _ _ _ _ _ o a b h.1 h2.1⟩)
      (fun o p a b c h h2 h3 => ⟨sndE_chn _ _ _ _ _ _ o p a b c h.1 h2.1 h3.1, sndC_chn _ _ _ _ _ _ o p a b c h.1 h2.1 h3.1⟩)
      (fun as h => nc rfl (sndE_and _ _ _ _ _ _ as h)) (fun as h => nc rfl (sndE_or _ _ _ _ _ _ as h)) (fun a h => nc rfl (sndE_not _ _ _ _ _ _ a h.1)) (fun as h => nc rfl (sndE_tup _ _ _ _ _ _ as h)) (fun as h => nc rfl (sndE_lst _ _ _ _ _ _ as h))
      (fun a i h h2 => nc rfl (sndE_idx _ _ _ _ _ _ a i h.1 h2.1)) (fun a lo hi h h2 h3 => nc rfl (sndE_cut _ _ _ _ _ _ a lo hi h.1 h2 h3)) (fun f as h => nc rfl (sndE_call _ _ _ _ _ _ f as h)) (fun f as h => nc rfl (sndE_bif _ _ _ _ _ _ f as h))
      (fun mf o as h h2 => nc rfl (sndE_mth _ _ _ _ _ _ mf o as h.1 h2)) (fun a cs t h => nc rfl (sndE_isi _ _ _ _ _ _ hno a cs t h.1)) (fun a f h => nc rfl (sndE_fld _ _ _ _ _ _ a f h.1))
      (fun a t it c own h h2 h3 => nc rfl (sndE_comp _ _ _ _ _ _ a t it c own h.1 h2 h3))
      (sndP_no _ _ _ _ _ _) (fun a h => sndP_at _ _ _ _ _ _ a h.1)
      (sndT_yes _ _ _ _ _ _) (fun a h => sndT_val _ _ _ _ _ _ a h) (fun as h => sndT_and _ _ _ _ _ _ as h) (fun as h => sndT_or _ _ _ _ _ _ as h) (fun a h => sndT_not _ _ _ _ _ _ a h)
      (sndTs_nil _ _ _ _ _ _) (fun a r h h2 => sndTs_cons _ _ _ _ _ _ a r h h2)
      (sndEs_nil _ _ _ _ _ _) (fun a r h h2 => sndEs_cons _ _ _ _ _ _ a r h.1 h2)
      (fun a h => sndI_seq _ _ _ _ _ _ a h.1) (fun a h => sndI_rng1 _ _ _ _ _ _ a h.1) (fun a b h h2 => sndI_rng2 _ _ _ _ _ _ a b h.1 h2.1) (fun a h => sndI_enum _ _ _ _ _ _ a h.1) (fun a b h h2 => sndI_zip _ _ _ _ _ _ a b h.1 h2.1)
  · refine @Txs.rec (M1 pg cl ck m k call) (MP pg cl ck m k call) (MT pg cl ck m k call) (MTs pg cl ck m k call) (MEs pg cl ck m k call) (MI pg cl ck m k call)
      (fun d => nc rfl (sndE_lit _ _ _ _ _ _ d)) (fun i => nc rfl (sndE_loc _ _ _ _ _ _ i)) (fun y d => nc rfl (sndE_con _ _ _ _ _ _ y d)) (fun a h => nc rfl (sndE_neg _ _ _ _ _ _ a h.1))
      (fun o a b h h2 => nc rfl (sndE_bin _ _ _ _ _ _ o a b h.1 h2.1)) (fun o a b h h2 => ⟨sndE_cmp _ _ _ _ _ _ o a b h.1 h2.1, sndC_cmp _ _ _ _ _ _ o a b h.1 h2.1⟩)
      (fun o p a b c h h2 h3 => ⟨sndE_chn _ _ _ _ _ _ o p a b c h.1 h2.1 h3.1, sndC_chn _ _ _ _ _ _ o p a b c h.1 h2.1 h3.1⟩)
      (fun as h => nc rfl (sndE_and _ _ _ _ _ _ as h)) (fun as h => nc rfl (sndE_or _ _ _ _ _ _ as h)) (fun a h => nc rfl (sndE_not _ _ _ _ _ _ a h.1)) (fun as h => nc rfl (sndE_tup _ _ _ _ _ _ as h)) (fun as h => nc rfl (sndE_lst _ _ _ _ _ _ as h))
      (fun a i h h2 => nc rfl (sndE_idx _ _ _ _ _ _ a i h.1 h2.1)) (fun a lo hi h h2 h3 => nc rfl (sndE_cut _ _ _ _ _ _ a lo hi h.1 h2 h3)) (fun f as h => nc rfl (sndE_call _ _ _ _ _ _ f as h)) (fun f as h => nc rfl (sndE_bif _ _ _ _ _ _ f as h))
      (fun mf o as h h2 => nc rfl (sndE_mth _ _ _ _ _ _ mf o as h.1 h2)) (fun a cs t h => nc rfl (sndE_isi _ _ _ _ _ _ hno a cs t h.1)) (fun a f h => nc rfl (sndE_fld _ _ _ _ _ _ a f h.1))
      (fun a t it c own h h2 h3 => nc rfl (sndE_comp _ _ _ _ _ _ a t it c own h.1 h2 h3))
      (sndP_no _ _ _ _ _ _) (fun a h => sndP_at _ _ _ _ _ _ a h.1)
      (sndT_yes _ _ _ _ _ _) (fun a h => sndT_val _ _ _ _ _ _ a h) (fun as h => sndT_and _ _ _ _ _ _ as h) (fun as h => sndT_or _ _ _ _ _ _ as h) (fun a h => sndT_not _ _ _ _ _ _ a h)
      (sndTs_nil _ _ _ _ _ _) (fun a r h h2 => sndTs_cons _ _ _ _ _ _ a r h h2)
      (sndEs_nil _ _ _ _ _ _) (fun a r h h2 => sndEs_cons _ _ _ _ _ _ a r h.1 h2)
      (fun a h => sndI_seq _ _ _ _ _ _ a h.1) (fun a h => sndI_rng1 _ _ _ _ _ _ a h.1) (fun a b h h2 => sndI_rng2 _ _ _ _ _ _ a b h.1 h2.1) (fun a h => sndI_enum _ _ _ _ _ _ a h.1) (fun a b h h2 => sndI_zip _ _ _ _ _ _ a b h.1 h2.1)
  · refine @Exs.rec (M1 pg cl ck m k call) (MP pg cl ck m k call) (MT pg cl ck m k call) (MTs pg cl ck m k call) (MEs pg cl ck m k call) (MI pg cl ck m k call)
      (fun d => nc rfl (sndE_lit _ _ _ _ _ _ d)) (fun i => nc rfl (sndE_loc _ _ _ _ _ _ i)) (fun y d => nc rfl (sndE_con _ _ _ _ _ _ y d)) (fun a h => nc rfl (sndE_neg _ _ _ _ _ _ a h.1))
      (fun o a b h h2 => nc rfl (sndE_bin _ _ _ _ _ _ o a b h.1 h2.1)) (fun o a b h h2 => ⟨sndE_cmp _ _ _ _ _ _ o a b h.1 h2.1, sndC_cmp _ _ _ _ _ _ o a b h.1 h2.1⟩)
      (fun o p a b c h h2 h3 => ⟨sndE_chn _ _ _ _ _ _ o p a b c h.1 h2.1 h3.1, sndC_chn _ _ _ _ _ _ o p a b c h.1 h2.1 h3.1⟩)
      (fun as h => nc rfl (sndE_and _ _ _ _ _ _ as h)) (fun as h => nc rfl (sndE_or _ _ _ _ _ _ as h)) (fun a h => nc rfl (sndE_not _ _ _ _ _ _ a h.1)) (fun as h => nc rfl (sndE_tup _ _ _ _ _ _ as h)) (fun as h => nc rfl (sndE_lst _ _ _ _ _ _ as h))
      (fun a i h h2 => nc rfl (sndE_idx _ _ _ _ _ _ a i h.1 h2.1)) (fun a lo hi h h2 h3 => nc rfl (sndE_cut _ _ _ _ _ _ a lo hi h.1 h2 h3)) (fun f as h => nc rfl (sndE_call _ _ _ _ _ _ f as h)) (fun f as h => nc rfl (sndE_bif _ _ _ _ _ _ f as h))
      (fun mf o as h h2 => nc rfl (sndE_mth _ _ _ _ _ _ mf o as h.1 h2)) (fun a cs t h => nc rfl (sndE_isi _ _ _ _ _ _ hno a cs t h.1)) (fun a f h => nc rfl (sndE_fld _ _ _ _ _ _ a f h.1))
      (fun a t it c own h h2 h3 => nc rfl (sndE_comp _ _ _ _ _ _ a t it c own h.1 h2 h3))
      (sndP_no _ _ _ _ _ _) (fun a h => sndP_at _ _ _ _ _ _ a h.1)
      (sndT_yes _ _ _ _ _ _) (fun a h => sndT_val _ _ _ _ _ _ a h) (fun as h => sndT_and _ _ _ _ _ _ as h) (fun as h => sndT_or _ _ _ _ _ _ as h) (fun a h => sndT_not _ _ _ _ _ _ a h)
      (sndTs_nil _ _ _ _ _ _) (fun a r h h2 => sndTs_cons _ _ _ _ _ _ a r h h2)
      (sndEs_nil _ _ _ _ _ _) (fun a r h h2 => sndEs_cons _ _ _ _ _ _ a r h.1 h2)
      (fun a h => sndI_seq _ _ _ _ _ _ a h.1) (fun a h => sndI_rng1 _ _ _ _ _ _ a h.1) (fun a b h h2 => sndI_rng2 _ _ _ _ _ _ a b h.1 h2.1) (fun a h => sndI_enum _ _ _ _ _ _ a h.1) (fun a b h h2 => sndI_zip _ _ _ _ _ _ a b h.1 h2.1)
  · refine @Iw.rec (M1 pg cl ck m k call) (MP pg cl ck m k call) (MT pg cl ck m k call) (MTs pg cl ck m k call) (MEs pg cl ck m k call) (MI pg cl ck m k call)
      (fun d => nc rfl (sndE_lit _ _ _ _ _ _ d)) (fun i => nc rfl (sndE_loc _ _ _ _ _ _ i)) (fun y d => nc rfl (sndE_con _ _ _ _ _ _ y d)) (fun a h => nc rfl (sndE_neg _ _ _ _ _ _ a h.1))
      (fun o a b h h2 => nc rfl (sndE_bin _ _ _ _ _ _ o a b h.1 h2.1)) (fun o a b h h2 => ⟨sndE_cmp _ _ _ _ _ _ o a b h.1 h2.1, sndC_cmp _ _ _ _ _ _ o a b h.1 h2.1⟩)
      (fun o p a b c h h2 h3 => ⟨sndE_chn _ _ _ _ _ _ o p a b c h.1 h2.1 h3.1, sndC_chn _ _ _ _ _ _ o p a b c h.1 h2.1 h3.1⟩)
      (fun as h => nc rfl (sndE_and _ _ _ _ _ _ as h)) (fun as h => nc rfl (sndE_or _ _ _ _ _ _ as h)) (fun a h => nc rfl (sndE_not _ _ _ _ _ _ a h.1)) (fun as h => nc rfl (sndE_tup _ _ _ _ _ _ as h)) (fun as h => nc rfl (sndE_lst _ _ _ _ _ _ as h))
      (fun a i h h2 => nc rfl (sndE_idx _ _ _ _ _ _ a i h.1 h2.1)) (fun a lo hi h h2 h3 => nc rfl (sndE_cut _ _ _ _ _ _ a lo hi h.1 h2 h3)) (fun f as h => nc rfl (sndE_call _ _ _ _ _ _ f as h)) (fun f as h => nc rfl (sndE_bif _ _ _ _ _ _ f as h))
      (fun mf o as h h2 => nc rfl (sndE_mth _ _ _ _ _ _ mf o as h.1 h2)) (fun a cs t h => nc rfl (sndE_isi _ _ _ _ _ _ hno a cs t h.1)) (fun a f h => nc rfl (sndE_fld _ _ _ _ _ _ a f h.1))
      (fun a t it c own h h2 h3 => nc rfl (sndE_comp _ _ _ _ _ _ a t it c own h.1 h2 h3))
      (sndP_no _ _ _ _ _ _) (fun a h => sndP_at _ _ _ _ _ _ a h.1)
      (sndT_yes _ _ _ _ _ _) (fun a h => sndT_val _ _ _ _ _ _ a h) (fun as h => sndT_and _ _ _ _ _ _ as h) (fun as h => sndT_or _ _ _ _ _ _ as h) (fun a h => sndT_not _ _ _ _ _ _ a h)
      (sndTs_nil _ _ _ _ _ _) (fun a r h h2 => sndTs_cons _ _ _ _ _ _ a r h h2)
      (sndEs_nil _ _ _ _ _ _) (fun a r h h2 => sndEs_cons _ _ _ _ _ _ a r h.1 h2)
      (fun a h => sndI_seq _ _ _ _ _ _ a h.1) (fun a h => sndI_rng1 _ _ _ _ _ _ a h.1) (fun a b h h2 => sndI_rng2 _ _ _ _ _ _ a b h.1 h2.1) (fun a h => sndI_enum _ _ _ _ _ _ a h.1) (fun a b h h2 => sndI_zip _ _ _ _ _ _ a b h.1 h2.1)
end
end WL
end
section
set_option Elab.async false
set_option linter.all false
set_option maxRecDepth 100000
set_option maxHeartbeats 4000000
/-! WP: statements. -/
namespace WL
open PySem L2
/-! ### what is wanted behind a statement -/
section
variable (K : PySem.W.Frag) (cl : Cl) (m : Md) (W : WX)
def PstS (E : Ends) (ι : Pls) (H : Hp) : Sr → Prop
  | .ok .nx ρ S => ∀ σ' H' ι', Step ι H ι' H' → Go K cl m ρ S ι' σ' H' → E.nx σ' H'
  | .ok .bk ρ S => ∀ σ' H' ι', Step ι H ι' H' → Go K cl m ρ S ι' σ' H' → E.bk σ' H'
  | .ok .ct ρ S => ∀ σ' H' ι', Step ι H ι' H' → Go K cl m ρ S ι' σ' H' → E.ct σ' H'
  | .ok (.rt d) ρ S => ∀ v H' ι', Step ι H ι' H' → RS K cl m H' ι' S → RV K H' ι' d v → E.rt v H'
  | .exc c fs ρ S => ∀ dd σ' H' ι', Step ι H ι' H' → Go K cl m ρ S ι' σ' H' → RX K H' ι' fs dd → W (.ref (cl c)) dd σ' H'
  | .bad => False
def tS (r : Ro → Sto → Sr) : TS := fun E σ H => ∃ ρ S ι, Go K cl m ρ S ι σ H ∧ PstS K cl m W E ι H (r ρ S)
end
section
variable {K : PySem.W.Frag} {cl : Cl} {m : Md} {W : WX} {E : Ends} {ι ι1 : Pls} {H H1 : Hp} {σ : St}
theorem PstS.step {r : Sr} (st : Step ι H ι1 H1) (h : PstS K cl m W E ι H r) : PstS K cl m W E ι1 H1 r := by
  cases r with
  | ok f ρ S =>
    cases f with
    | rt d => exact fun v H' ι' s2 => h v H' ι' (st.trans s2)
    | _ => exact fun σ' H' ι' s2 => h σ' H' ι' (st.trans s2)
  | exc c fs ρ S => exact fun dd σ' H' ι' s2 => h dd σ' H' ι' (st.trans s2)
  | bad => exact h
/-- an expression's run within a statement's -/
theorem PstS.of_st {α β : Type} {R : Hp → Pls → α → β → Prop} {Q : β → Hp → Prop} {ρ : Ro} {S : Sto} {r : Res α} {f : α → Sto → Sr} (st0 : Step ι H ι1 H1) (g : Go K cl m ρ S ι1 σ H1) (h : PstS K cl m W E ι H (r.st ρ f))
    (k : ∀ d S2 v H2 ι2, r = .ok d S2 → Step ι1 H1 ι2 H2 → RS K cl m H2 ι2 S2 → R H2 ι2 d v → PstS K cl m W E ι H (f d S2) → Q v H2) : Pst K cl m W R σ ι1 H1 r Q := by
  cases r with
  | ok d S1 => exact fun v H2 ι2 st rs rv => k d S1 v H2 ι2 rfl st rs rv h
  | exc c fs S1 => exact fun dd H' ι' st rs rx => h dd σ H' ι' (st0.trans st) (g.step st rs) rx
  | bad => exact h
end
/-! ### the checker -/
def xAsg : Stmt → Option (Expr × Expr × Pos)
  | .Assign [t] e p => some (t, e, p)
  | _ => none
def xAug : Stmt → Option (Expr × Operator × Expr)
  | .AugAssign t o e _ => some (t, o, e)
  | _ => none
def xExp : Stmt → Option (Expr × Pos)
  | .Expr e p => some (e, p)
  | _ => none
def xRet : Stmt → Option Expr
  | .Return (some e) _ => some e
  | _ => none
def xIf : Stmt → Option (Expr × List Stmt × List Stmt)
  | .If c a b _ => some (c, a, b)
  | _ => none
def xFor : Stmt → Option (Expr × Expr × List Stmt)
  | .For t i b [] _ => some (t, i, b)
  | _ => none
def xWhl : Stmt → Option (Expr × List Stmt)
  | .While c b [] _ => some (c, b)
  | _ => none
def xRai : Stmt → Option Expr
  | .Raise (some e) none _ => some e
  | _ => none
def xTry : Stmt → Option (List Stmt × Expr × Str × List Stmt)
  | .Try b [.ExceptHandler (some c) (some n) (s :: r) _] [] [] _ => some (b, c, n, s :: r)
  | _ => none
def xPass : Stmt → Bool
  | .Pass _ => true
  | _ => false
theorem xAsg_eq {s : Stmt} {t e : Expr} {p : Pos} (h : xAsg s = some (t, e, p)) : s = .Assign [t] e p := by
  unfold xAsg at h
  split at h
  · cases h
    rfl
  · cases h
theorem xAug_eq {s : Stmt} {t e : Expr} {o : Operator} (h : xAug s = some (t, o, e)) : ∃ p, s = .AugAssign t o e p := by
  unfold xAug at h
  split at h
  · cases h
    exact ⟨_, rfl⟩
  · cases h
theorem xExp_eq {s : Stmt} {e : Expr} {p : Pos} (h : xExp s = some (e, p)) : s = .Expr e p := by
  unfold xExp at h
  split at h
  · cases h
    rfl
  · cases h
theorem xRet_eq {s : Stmt} {e : Expr} (h : xRet s = some e) : ∃ p, s = .Return (some e) p := by
  unfold xRet at h
  split at h
  · cases h
    exact ⟨_, rfl⟩
  · cases h
theorem xIf_eq {s : Stmt} {c : Expr} {a b : List Stmt} (h : xIf s = some (c, a, b)) : ∃ p, s = .If c a b p := by
  unfold xIf at h
  split at h
  · cases h
    exact ⟨_, rfl⟩
  · cases h
theorem xFor_eq {s : Stmt} {t i : Expr} {b : List Stmt} (h : xFor s = some (t, i, b)) : ∃ p, s = .For t i b [] p := by
  unfold xFor at h
  split at h
  · cases h
    exact ⟨_, rfl⟩
  · cases h
theorem xWhl_eq {s : Stmt} {c : Expr} {b : List Stmt} (h : xWhl s = some (c, b)) : ∃ p, s = .While c b [] p := by
  unfold xWhl at h
  split at h
  · cases h
    exact ⟨_, rfl⟩
  · cases h
theorem xRai_eq {s : Stmt} {e : Expr} (h : xRai s = some e) : ∃ p, s = .Raise (some e) none p := by
  unfold xRai at h
  split at h
  · cases h
    exact ⟨_, rfl⟩
  · cases h
theorem xTry_eq {s : Stmt} {b su : List Stmt} {c : Expr} {n : Str} (h : xTry s = some (b, c, n, su)) : ∃ s0 r p' p, su = s0 :: r ∧ s = .Try b [.ExceptHandler (some c) (some n) (s0 :: r) p'] [] [] p := by
  unfold xTry at h
  split at h
  · cases h
    exact ⟨_, _, _, _, rfl, rfl⟩
  · cases h
theorem xPass_eq {s : Stmt} (h : xPass s = true) : ∃ p, s = .Pass p := by
  cases s <;> first | exact ⟨_, rfl⟩ | cases h
/-- no comprehension at the top -/
def noComp : Expr → Bool
  | .ListComp .. => false
  | .SetComp .. => false
  | .DictComp .. => false
  | _ => true
def notSeq : Expr → Bool
  | .Name .. => true
  | .Subscript .. => true
  | _ => false
def noTup : Expr → Bool
  | .Tuple .. => false
  | _ => true
theorem swap_no {e : Expr} {t : Option Expr} {l : Nat} {env : Env} (h : noComp e = true) : swapsWith e t l env = pure false := by
  cases e <;> first | rfl | cases h
/-- name = [..] on one line, the name a local -/
def lcB (sc : Sc) (y : Str) (py : Pos) (s : Scope) (pos : Pos) : Bool := (match sc.vis.kind with | .function => true | _ => false) && (match sc.vis.names.lookup y with | some .local => true | _ => false) && (py.line == pos.line) && !(s.names.any fun (n, k) => n == y && (k == .local || k == .cell))
def rzArg (ck : Ck) (sc : Sc) : Exs → List Expr → Bool
  | .cons a .nil, [e] => ckE ck sc a e
  | _, _ => false
def rnArg : List Expr → Bool
  | [] => true
  | [.Constant (.str _) _ _] => true
  | _ => false
def ckHot (ck : Ck) : Ck := { ck with hot := true }
mutual
def ckS (ck : Ck) (sc : Sc) : Sm → Stmt → Bool
  | .asg t v, st => match xAsg st with
    | some (tg, e, _) => tgB ck sc t tg && ckE ck sc v e && ((noComp e && (noTup e || notSeq tg)) || (match tg, e with
      | .Name y py, .ListComp _ _ s pos => !ck.hot && lcB sc y py s pos
      | _, _ => false))
    | none => false
  | .asgI o i v, st => match xAsg st with
    | some (tg, e, _) => (match xSub tg with
      | some (x, y) => noComp e && ckE ck sc v e && ckE ck sc o x && ckE ck sc i y
      | none => false)
    | none => false
  | .aug i o v, st => match xAug st with
    | some (tg, p, e) => nmB ck sc i tg && opEq p (opB o) && decide (o = .add) && ckE ck sc v e
    | none => false
  | .ex v, st => match xExp st with
    | some (e, _) => noComp e && ckE ck sc v e
    | none => false
  | .ret v, st => match xRet st with
    | some e => ckE ck sc v e
    | none => false
  | .iff c a b, st => match xIf st with
    | some (e, x, y) => ckT ck sc c e && ckSs ck sc a x && ckSs ck sc b y
    | none => false
  | .for_ t it b kl, st => match xFor st with
    | some (tg, i, x) => !ck.hot && tgB ck sc t tg && ckI ck sc (isTup tg) it i && ckSs ck sc b x
    | none => false
  | .whl c b kl, st => match xWhl st with
    | some (e, x) => ckT ck sc c e && ckSs ck sc b x
    | none => false
  | .raise c as, st => match xRai st with
    | some e => (match xCall e with
      | some (g, es, _) => (match xName g with
        | some x => !ck.hot && decide (x = c) && glB sc.vis x && plainName x && ((ck.rz.contains c && rzArg ck sc as es) || (ck.rn.contains c && rnArg es))
        | none => false)
      | _ => false)
    | none => false
  | .tryAs b c i h, st => match xTry st with
    | some (x, ce, n, su) => (match xName ce with
      | some cn => !ck.hot && decide (cn = c) && ck.cls.contains c && glB sc.vis c && plainName c && decide (ck.N[i]? = some n) && (match sc.vis.names.lookup n with | some .local => true | _ => false) && ckSs ck sc b x && ckSs (ckHot ck) sc h su
      | none => false)
    | none => false
  | .pass, st => xPass st
def ckSs (ck : Ck) (sc : Sc) : Sms → List Stmt → Bool
  | .nil, [] => true
  | .cons a r, s :: ss => ckS ck sc a s && ckSs ck sc r ss
  | _, _ => false
end
/-! ### the context of a def's body -/
/-- what is raised -/
def tMk (K : PySem.W.Frag) (cl : Cl) (m : Md) (W : WX) (c f : Str) (ra : Ro → Sto → Res (List D)) : St → Hp → XK → Prop := fun σ H Q => ∃ ρ S ι, Go K cl m ρ S ι σ H ∧
  Pst K cl m W (RVs K) σ ι H (ra ρ S) fun vs H1 => ∃ v, vs = [v] ∧ ∀ d H2, H1 d = none → H2 = L2.upd H1 d (.xd [(f, v)]) → Q (.ref (cl c)) (some d) H2
/-- what is known of the contexts in which something is raised -/
structure RzOk (pg : Pg) (cl : Cl) (ck : Ck) (X : Cx) : Prop where
  one : ∀ (m : Md) (W : WX) (c : Str), ck.rz.contains c = true → ∃ f, pg.flds c = some [f] ∧ (Gl X c → plainName c = true → ∀ (e : Expr) (p pos : Pos) (ra : Ro → Sto → Res (List D)), isStar e = false → PA X [e] (tA X.K cl m W ra) → L2N.PMk X (.Call (.Name c p) [e] [] pos) (tMk X.K cl m W c f ra))
  non : ∀ (c : Str), ck.rn.contains c = true → pg.flds c = none ∧ (Gl X c → plainName c = true → ∀ (es : List Expr) (p pos : Pos), rnArg es = true → L2N.PMk X (.Call (.Name c p) es [] pos) (fun _ H Q => Q (.ref (cl c)) none H))
structure SOk (pg : Pg) (cl : Cl) (ck : Ck) (m : Md) (k : Nat) (call : Str → List D → Sto → Res D) (sc : Sc) (W : WX) (X : Cx) : Prop extends XOk pg cl ck m k call sc W X where
  hs : X.stack = X.env :: X.outer
  hf : X.env.frame = some X.env.locals
  own : PassesOwn (model X.prog X.w) X.A X.env X.xe
  /-- the same with other pins, another wish -/
  rz : X.calm = true → ∀ (pn : List (Addr × Obj)) (xe : Value → Shared → Prop), RzOk pg cl ck (X.tr pn xe)
end WL
end
section
set_option Elab.async false
set_option linter.all false
set_option maxRecDepth 100000
set_option maxHeartbeats 4000000
/-! WQ: every statement that the checker takes. -/
namespace WL
open PySem L2
section
variable {pg : Pg} {cl : Cl} {ck : Ck} {m : Md} {k : Nat} {call : Str → List D → Sto → Res D} {sc : Sc} {W : WX} {X : Cx}
theorem sndX (hno : hnoC ck) {a : Ex} {e : Expr} (O : XOk pg cl ck m k call sc W X) (h : ckE ck sc a e = true) : PE X e (tE X.K cl m W (evE pg call a)) := ((snd_all pg cl ck m k call hno).1 a).1 sc W X e O h
theorem sndTe (hno : hnoC ck) {a : Tx} {e : Expr} (O : XOk pg cl ck m k call sc W X) (h : ckT ck sc a e = true) : PT X e (tT X.K cl m W (evT pg call a)) := (snd_all pg cl ck m k call hno).2.2.1 a sc W X e O h
theorem sndAs (hno : hnoC ck) {a : Exs} {e : List Expr} (O : XOk pg cl ck m k call sc W X) (h : ckEs ck sc a e = true) : PA X e (tA X.K cl m W (evEs pg call a)) := ((snd_all pg cl ck m k call hno).2.2.2.2.1 a).1 sc W X e O h
theorem sndIt (hno : hnoC ck) {a : Iw} {tg e : Expr} (O : XOk pg cl ck m k call sc W X) (h : ckI ck sc (isTup tg) a e = true) : PIb m X tg e (tI X.K cl m W (evI pg call a)) := (snd_all pg cl ck m k call hno).2.2.2.2.2 a sc W X tg e O h
end
theorem assign_sub {ck : Ck} {sc : Sc} {i : Ex} {x y : Expr} {p : Pos} {env : Env} {v : Value} (h : ckE ck sc i y = true) : assign (.Subscript x y p) env v = (do
      let ov ← holding [v] (eval x env)
      let iv ← holding [v, ov] (eval y env)
      standAt p
      holding [v, ov, iv] (setItem ov iv v)
      release [v, ov, iv] []) := by
  cases y with
  | Slice l u st p => cases i <;> first | (simp [ckE, xCst, xName, xUn, xBin, xCmp, xBool, xTup, xLst, xSub, xCall, xAttr, xComp] at h; done)
  | _ => rfl
theorem sw_sole {tg e : Expr} {l : Nat} {env : Env} (h : noComp e = true) : swapsWithSole [tg] e l env = pure false := swap_no h
theorem sw_stores {tg e : Expr} {env : Env} (h : (noTup e || notSeq tg) = true) : swappedStores [tg] e env = pure none := by
  rw [Bool.or_eq_true] at h
  rcases h with h | h
  · cases e <;> first | (cases tg <;> rfl) | cases h
  · cases tg <;> first | (cases e <;> rfl) | cases h
theorem nm_only {ck : Ck} {sc : Sc} {i : Nat} {e : Expr} (h : nmB ck sc i e = true) : ∃ x p, e = .Name x p ∧ ck.N[i]? = some x := by
  unfold nmB at h
  split at h
  · rename_i x hx
    obtain ⟨p, rfl⟩ := xName_eq hx
    simp only [Bool.and_eq_true, decide_eq_true_eq] at h
    exact ⟨x, p, rfl, h.1⟩
  · cases h
section
variable {K : PySem.W.Frag} {cl : Cl} {m : Md} {W : WX} {σ : L2.St} {H : Hp} {E : Ends}
/-- a value stored -/
theorem asg_of {re : Ro → Sto → Res D} {t : Tg} (h : tS K cl m W (fun ρ S => (re ρ S).st ρ fun d S1 => match putT t d ρ with
    | some ρ1 => .ok .nx ρ1 (gc S [d] S1)
    | none => .bad) E σ H) : tAsg (tE K cl m W re) (gT K t) E σ H := by
  obtain ⟨ρ, S, ι, g, hp⟩ := h
  refine ⟨ρ, S, ι, g, PstS.of_st (Step.refl _ _) g hp fun d S1 v H1 ι1 _ st rs rv q => ?_⟩
  cases hput : putT t d ρ with
  | none => rw [hput] at q; exact q.elim
  | some ρ1 =>
    rw [hput] at q
    obtain ⟨ι2, st2, rs2, q2, _⟩ := gc_ok (ds := [d]) g.2 st rs
    exact gT_ok (g.1.step st2) (q2 d v List.mem_cons_self rv) hput fun σ2 re2 _ => q σ2 H1 ι2 st2 ⟨re2, rs2⟩
end
section
variable (pg : Pg) (cl : Cl) (k : Nat) (call : Str → List D → Sto → Res D)
def MS (a : Sm) : Prop := ∀ (ck : Ck) (m : Md) (sc : Sc) (W : WX) (X : Cx) (st : Stmt), hnoC ck → SOk pg cl ck m k call sc W X → ckS ck sc a st = true → PS X st (tS X.K cl m W (evS pg call a))
def MSs (a : Sms) : Prop := ∀ (ck : Ck) (m : Md) (sc : Sc) (W : WX) (X : Cx) (st : List Stmt), hnoC ck → SOk pg cl ck m k call sc W X → ckSs ck sc a st = true → PSs X st (tS X.K cl m W (evSs pg call a))
variable {pg cl k call}
theorem sndS_asg (t : Tg) (v : Ex) : MS pg cl k call (.asg t v) := by
  intro ck m sc W X st hno O h
  simp only [ckS] at h
  split at h
  · rename_i tg e p hx
    obtain rfl := xAsg_eq hx
    simp only [Bool.and_eq_true] at h
    obtain ⟨⟨h1, h2⟩, h3⟩ := h
    simp only [evS]
    rw [Bool.or_eq_true] at h3
    rcases h3 with h3 | h3
    · rw [Bool.and_eq_true] at h3
      refine PS.imp (ps_asg (sndX hno O.toXOk h2) (pg_tg O.toXOk h1) (sw_sole h3.1) (sw_stores h3.2) ?_) fun E σ H q => asg_of q
      cases t with
      | nm i =>
        obtain ⟨x, p2, rfl, _⟩ := nm_only h1
        rfl
      | tp is =>
        simp only [tgB, Bool.and_eq_true] at h1
        obtain ⟨_, h1⟩ := h1
        split at h1
        · rename_i es hes
          obtain ⟨j, p2, rfl⟩ := xTup_eq hes
          rfl
        · cases h1
    · split at h3
      · rename_i y py x gs s pos
        rw [Bool.and_eq_true] at h3
        obtain ⟨h4, h5⟩ := h3
        have hcold : ck.hot = false := by simpa using h4
        have hm : m = none := O.cold hcold
        have hc := O.toXOk.calm hcold
        unfold lcB at h5
        simp only [Bool.and_eq_true, Bool.not_eq_true'] at h5
        obtain ⟨⟨⟨h6, h7⟩, h8⟩, h9⟩ := h5
        have hk : X.env.scope.kind = .function := by
          rw [O.scope]
          split at h6
          · assumption
          · cases h6
        have hl : X.env.scope.names.lookup y = some .local := by
          rw [O.scope]
          split at h7
          · assumption
          · cases h7
        cases v with
        | comp a t2 it c own =>
          cases t with
          | tp is =>
            simp only [tgB, xTup, Bool.and_eq_true] at h1
            cases h1.2
          | nm i =>
            obtain ⟨x2, p2, e2, hN⟩ := nm_only (ck := ck) (sc := sc) (i := i) (e := .Name y py) h1
            cases e2
            simp only [ckE] at h2
            split at h2
            · rename_i x3 tg2 i2 cs s2 hx2
              obtain ⟨p3, e3⟩ := xComp_eq hx2
              cases e3
              simp only [Bool.and_eq_true, decide_eq_true_eq] at h2
              obtain ⟨⟨⟨⟨⟨⟨g1, g2⟩, g3⟩, g4⟩, g5⟩, g6⟩, g7⟩ := h2
              have ok : BlkOk X.N X.env.scope s (ownP ck.N own) := by
                rw [O.N, O.scope]
                exact blkOk_by g1
              have hsub : ∀ i ∈ tgIx t2, i ∈ own := fun i hi => List.contains_iff_mem.mp (List.all_eq_true.mp g4 i hi)
              have hi : PI X tg2 i2 (tI X.K cl m W (evI pg call it)) := (sndIt hno O.toXOk g5).1 hm
              have b := fun (s' : Shared) (H : Hp) (C : Addr) (l : List (Str × Addr)) (fp : List Addr) => O.toXOk.blk hc hm (scope := s) s' H C l fp
              refine PS.imp (ps_setLc (g := gT X.K t2) (tt := tT X.K cl m WF0 (evT pg call c)) (te := tE X.K cl m WF0 (evE pg call a)) hc O.nd (by rw [O.N]; exact hN) hl (sw_true hk hl h8 h9) hi ok (fun s H C l fp => pg_tg (b s H C l fp) g3) (fun s H C l fp => ?_) (fun s H C l fp => sndX hno (b s H C l fp) g6) fun v => ckI_set g5) fun E σ H q => ?_
              · have OY := b s H C l fp
                cases cs with
                | nil =>
                  have hy : c = .yes := by cases c <;> first | rfl | (simp [isYes] at g7; done)
                  refine ⟨fun pins s σ H Q I hq => pts_nil.run pins s σ H Q I ?_⟩
                  obtain ⟨ρ, S, ι, g, hp⟩ := hq
                  rw [hy] at hp
                  simp only [evT] at hp
                  exact Pst.here hp g.2 rfl
                | cons z zs =>
                  cases zs with
                  | cons _ _ => cases g7
                  | nil => exact pts_one (sndTe hno OY g7)
              · have q2 := asg_of q
                show tLc _ _ _ _ _ _ _ _
                rw [g2]
                have q3 : tE X.K cl m W (evE pg call (.comp a t2 it c own)) σ H fun x H1 => gT X.K (.nm i) x σ H1 E.nx := q2
                simp only [evE] at q3
                exact lc_of hsub q3
            · cases h2
        | _ => simp [ckE, xCst, xName, xUn, xBin, xCmp, xBool, xTup, xLst, xSub, xCall, xAttr] at h2
      · cases h3
  · cases h
theorem sndS_asgI (o i v : Ex) : MS pg cl k call (.asgI o i v) := by
  intro ck m sc W X st hno O h
  simp only [ckS] at h
  split at h
  · rename_i tg e p hx
    obtain rfl := xAsg_eq hx
    split at h
    · rename_i x y hs
      obtain ⟨p2, rfl⟩ := xSub_eq hs
      simp only [Bool.and_eq_true] at h
      obtain ⟨⟨⟨h1, h2⟩, h3⟩, h4⟩ := h
      simp only [evS]
      refine PS.imp (ps_asg (sndX hno O.toXOk h2) (pg_sub (sndX hno O.toXOk h3) (sndX hno O.toXOk h4) set_list fun _ => assign_sub h4) (sw_sole h1) (sw_stores (by simp [notSeq])) rfl) fun E σ H q => ?_
      obtain ⟨ρ, S, ι, g, hp⟩ := q
      refine ⟨ρ, S, ι, g, PstS.of_st (Step.refl _ _) g hp fun d S1 v1 H1 ι1 _ st1 rs1 rv1 q1 => ?_⟩
      refine ⟨ρ, S1, ι1, g.step st1 rs1, PstS.of_st st1 (g.step st1 rs1) q1 fun d2 S2 v2 H2 ι2 _ st2 rs2 rv2 q2 => ?_⟩
      have g2 := (g.step st1 rs1).step st2 rs2
      refine ⟨ρ, S2, ι2, g2, PstS.of_st (st1.trans st2) g2 q2 fun d3 S3 v3 H3 ι3 _ st3 rs3 rv3 q3 => ?_⟩
      have rvd := RV.step st3 _ _ (RV.step st2 _ _ rv1)
      have rvo := RV.step st3 _ _ rv2
      cases d2 with
      | ref l =>
        cases d3 with
        | int j =>
          simp only at q3
          split at q3
          · rename_i ds hds
            split at q3
            · rename_i n hn
              obtain ⟨a, vs, rfl, e1, e2, e3⟩ := lst_at rs3 rvo hds
              refine ⟨a, vs, j, n, rfl, rv_int rv3, e2, by rw [← RVs.length e3]; exact hn, ?_⟩
              have stw : Step ι3 H3 ι3 (L2.upd H3 a (.lst (vs.set n v1))) := Step.write e1 e2 rfl
              have rsw := rs3.write (o' := .lst (ds.set n d)) (u := .lst (vs.set n v1)) e1 hds e2 rfl rfl ⟨_, upd_same, RVs.step stw _ _ (RVs.set n e3 rvd)⟩
              have stA := ((st1.trans st2).trans st3).trans stw
              obtain ⟨ι4, st4, rs4, _, _⟩ := gc_ok (ds := []) g.2 stA rsw
              exact q3 σ _ ι4 st4 ⟨g.1.step st4, rs4⟩
            · exact q3.elim
          · exact q3.elim
        | _ => exact q3.elim
      | _ => exact q3.elim
    · cases h
  · cases h
theorem sndS_aug (i : Nat) (o : BO) (v : Ex) : MS pg cl k call (.aug i o v) := by
  intro ck m sc W X st hno O h
  simp only [ckS] at h
  split at h
  · rename_i tg p e hx
    obtain ⟨pos, rfl⟩ := xAug_eq hx
    simp only [Bool.and_eq_true, decide_eq_true_eq] at h
    obtain ⟨⟨⟨h1, h2⟩, rfl⟩, h4⟩ := h
    obtain rfl := opEq_ok h2
    obtain ⟨x, p2, rfl, hN⟩ := nm_only h1
    unfold nmB at h1
    simp only [xName, Bool.and_eq_true, decide_eq_true_eq] at h1
    obtain ⟨l1, l2⟩ := locB_ok h1.2
    simp only [evS]
    refine PS.imp (ps_aug O.nd (by rw [O.N]; exact hN) (by rw [O.scope]; exact l1) (sndX hno O.toXOk h4) ip_add ?_) fun E σ H q => ?_
    · rcases l2 with l2 | l2
      · exact .inl (O.fn x l2)
      · exact .inr (by rw [O.scope]; exact l2)
    · obtain ⟨ρ, S, ι, g, hp⟩ := q
      simp only at hp
      split at hp
      · rename_i a ha
        obtain ⟨u, h5, h6⟩ := g.1.at_ i _ ha
        refine ⟨u, h5, ρ, S, ι, g, PstS.of_st (Step.refl _ _) g hp fun d S1 v1 H1 ι1 _ st1 rs1 rv1 q1 => ?_⟩
        cases d with
        | int b =>
          simp only at q1
          cases hput : putN i (.int (a + b)) ρ with
          | none => rw [hput] at q1; exact q1.elim
          | some ρ1 =>
            rw [hput] at q1
            obtain ⟨ι2, st2, rs2, _, _⟩ := gc_ok (ds := []) g.2 st1 rs1
            exact ⟨a, b, rv_int h6, rv_int rv1, q1 _ H1 ι2 st2 ⟨putN_ok (g.1.step st2) (by simp [RV]) hput, rs2⟩⟩
        | _ => exact q1.elim
      · exact hp.elim
  · cases h
theorem sndS_ex (v : Ex) : MS pg cl k call (.ex v) := by
  intro ck m sc W X st hno O h
  simp only [ckS] at h
  split at h
  · rename_i e p hx
    obtain rfl := xExp_eq hx
    simp only [Bool.and_eq_true] at h
    simp only [evS]
    refine PS.imp (ps_expr (sndX hno O.toXOk h.2) (swap_no h.1)) fun E σ H q => ?_
    obtain ⟨ρ, S, ι, g, hp⟩ := q
    refine ⟨ρ, S, ι, g, PstS.of_st (Step.refl _ _) g hp fun d S1 v1 H1 ι1 _ st1 rs1 rv1 q1 => ?_⟩
    obtain ⟨ι2, st2, rs2, _, _⟩ := gc_ok (ds := []) g.2 st1 rs1
    exact q1 σ H1 ι2 st2 ⟨g.1.step st2, rs2⟩
  · cases h
theorem sndS_ret (v : Ex) : MS pg cl k call (.ret v) := by
  intro ck m sc W X st hno O h
  simp only [ckS] at h
  split at h
  · rename_i e hx
    obtain ⟨p, rfl⟩ := xRet_eq hx
    simp only [evS]
    refine PS.imp (ps_ret (sndX hno O.toXOk h)) fun E σ H q => ?_
    obtain ⟨ρ, S, ι, g, hp⟩ := q
    exact ⟨ρ, S, ι, g, PstS.of_st (Step.refl _ _) g hp fun d S1 v1 H1 ι1 _ st1 rs1 rv1 q1 => q1 v1 H1 ι1 st1 rs1 rv1⟩
  · cases h
theorem sndS_iff (c : Tx) (a b : Sms) (iha : MSs pg cl k call a) (ihb : MSs pg cl k call b) : MS pg cl k call (.iff c a b) := by
  intro ck m sc W X st hno O h
  simp only [ckS] at h
  split at h
  · rename_i e x y hx
    obtain ⟨p, rfl⟩ := xIf_eq hx
    simp only [Bool.and_eq_true] at h
    simp only [evS]
    refine PS.imp (ps_if (sndTe hno O.toXOk h.1.1) (iha ck m sc W X x hno O h.1.2) (ihb ck m sc W X y hno O h.2)) fun E σ H q => ?_
    obtain ⟨ρ, S, ι, g, hp⟩ := q
    refine ⟨ρ, S, ι, g, PstS.of_st (Step.refl _ _) g hp fun d S1 v1 H1 ι1 _ st1 rs1 rv1 q1 => ?_⟩
    obtain rfl : v1 = d := rv1
    obtain ⟨ι2, st2, rs2, _, _⟩ := gc_ok (ds := []) g.2 st1 rs1
    cases v1 with
    | true => exact ⟨ρ, _, ι2, ⟨g.1.step st2, rs2⟩, PstS.step st2 q1⟩
    | false => exact ⟨ρ, _, ι2, ⟨g.1.step st2, rs2⟩, PstS.step st2 q1⟩
  · cases h
theorem sndS_pass : MS pg cl k call .pass := by
  intro ck m sc W X st hno O h
  simp only [ckS] at h
  obtain ⟨p, rfl⟩ := xPass_eq h
  simp only [evS]
  exact PS.imp ps_pass fun E σ H ⟨ρ, S, ι, g, hp⟩ => hp σ H ι (Step.refl _ _) g
theorem sndSs_nil : MSs pg cl k call .nil := by
  intro ck m sc W X st hno O h
  cases st with
  | cons _ _ => simp [ckSs] at h
  | nil =>
    simp only [evSs]
    exact PSs.imp pss_nil fun E σ H ⟨ρ, S, ι, g, hp⟩ => hp σ H ι (Step.refl _ _) g
theorem sndSs_cons (a : Sm) (r : Sms) (iha : MS pg cl k call a) (ihr : MSs pg cl k call r) : MSs pg cl k call (.cons a r) := by
  intro ck m sc W X st hno O h
  cases st with
  | nil => simp [ckSs] at h
  | cons s ss =>
    simp only [ckSs, Bool.and_eq_true] at h
    simp only [evSs]
    refine PSs.imp (pss_cons (iha ck m sc W X s hno O h.1) (ihr ck m sc W X ss hno O h.2)) fun E σ H q => ?_
    obtain ⟨ρ, S, ι, g, hp⟩ := q
    refine ⟨ρ, S, ι, g, ?_⟩
    have hp : PstS X.K cl m W E ι H ((evS pg call a ρ S).nx fun ρ1 S1 => evSs pg call r ρ1 S1) := hp
    cases he : evS pg call a ρ S with
    | ok f ρ1 S1 =>
      rw [he] at hp
      cases f with
      | nx =>
        intro σ' H' ι' st go
        exact ⟨ρ1, S1, ι', go, PstS.step st hp⟩
      | bk => exact hp
      | ct => exact hp
      | rt d => exact hp
    | exc c fs ρ1 S1 => rw [he] at hp; exact hp
    | bad => rw [he] at hp; exact hp
end
end WL
end
section
set_option Elab.async false
set_option linter.all false
set_option maxRecDepth 100000
set_option maxHeartbeats 4000000
/-! WR: loops, raise, try. -/
namespace WL
open PySem L2
section
variable {K : PySem.W.Frag} {cl : Cl} {m : Md} {W : WX} {σ : L2.St} {H : Hp} {E : Ends}
/-- a for's reading -/
theorem for_of {ri : Ro → Sto → Res Wk} {rb : Ro → Sto → Sr} {t : Tg} {kl : List Nat} (h : tS K cl m W (fun ρ S => (ri ρ S).st ρ fun w S1 => forL w.held kl (fun x ρ1 S2 => match putT t x ρ1 with
    | some ρ2 => rb ρ2 S2
    | none => .bad) w.items ρ S1) E σ H) : tFor (tI K cl m W ri) (gT K t) (tS K cl m W rb) E σ H := by
  obtain ⟨ρ, S, ι, g, hp⟩ := h
  refine ⟨ρ, S, ι, g, ?_⟩
  have hp : PstS K cl m W E ι H ((ri ρ S).st ρ fun w S1 => forL w.held kl (fun x ρ1 S2 => match putT t x ρ1 with
    | some ρ2 => rb ρ2 S2
    | none => .bad) w.items ρ S1) := hp
  cases hri : ri ρ S with
  | bad => rw [hri] at hp; exact hp.elim
  | exc c fs S' => rw [hri] at hp; exact fun dd H' ι' st rs rx => hp dd σ H' ι' st (g.step st rs) rx
  | ok w S1 =>
    rw [hri] at hp
    intro J H1 ι1 st1 rs1 wk
    generalize hstep : (fun x ρ1 S2 => match putT t x ρ1 with
      | some ρ2 => rb ρ2 S2
      | none => Sr.bad) = step at hp
    have hp1 : PstS K cl m W E ι1 H1 (forL w.held kl step w.items ρ S1) := PstS.step st1 hp
    have walk : Walk J w.items.length (fun H' => ∃ ι' S', Step ι1 H1 ι' H' ∧ RS K cl m H' ι' S' ∧ w.held S') (fun i H' x H2 => J.yld i H' x H2) :=
      ⟨fun i H' hi ⟨ι', S', a, b, c⟩ => wk.goes i ι' H' S' hi a b c, fun H' ⟨ι', S', a, b, c⟩ => wk.stops ι' H' S' a b c, fun _ _ _ _ _ _ y => y⟩
    have held : ∀ {l : List D} {ρ' : Ro} {S' : Sto} {ι' : Pls} {H' : Hp}, PstS K cl m W E ι' H' (forL w.held kl step l ρ' S') → w.held S' := fun {l ρ' S' ι' H'} q => by
      cases l with
      | nil =>
        unfold forL at q
        split at q
        · assumption
        · exact q.elim
      | cons x l =>
        unfold forL at q
        split at q
        · assumption
        · exact q.elim
    refine for_it walk (fun i σ' H' => ∃ ρ' S' ι', Step ι1 H1 ι' H' ∧ Go K cl m ρ' S' ι' σ' H' ∧ PstS K cl m W E ι1 H1 (forL w.held kl step (w.items.drop i) ρ' S')) ?_ ?_ ?_ ?_
    · exact ⟨ρ, S1, ι1, Step.refl _ _, g.step st1 rs1, by simpa using hp1⟩
    · rintro i σ' H' _ ⟨ρ', S', ι', a1, a2, a3⟩
      exact ⟨ι', S', a1, a2.2, held a3⟩
    · rintro i x σ' H' H2 hi ⟨ρ', S', ι', a1, a2, a3⟩ y
      have hh := held a3
      have hget : w.items[i]? = some w.items[i] := List.getElem?_eq_getElem hi
      obtain ⟨k1, rv⟩ := wk.yields i ι' H' S' x H2 _ hget a1 a2.2 hh y
      have s2 : Step ι' H' ι' H2 := Step.same k1
      have a2' := a2.2.same k1
      rw [List.drop_eq_getElem_cons hi] at a3
      unfold forL at a3
      rw [if_pos hh] at a3
      have e1 : step w.items[i] ρ' S' = (match putT t w.items[i] ρ' with
        | some ρ2 => rb ρ2 S'
        | none => Sr.bad) := by rw [← hstep]
      rw [e1] at a3
      cases hput : putT t w.items[i] ρ' with
      | none => rw [hput] at a3; exact a3.elim
      | some ρ2 =>
        rw [hput] at a3
        simp only at a3
        refine gT_ok (a2.1.step s2) rv hput fun σ2 re2 _ => ?_
        refine ⟨ρ2, S', ι', ⟨re2, a2'⟩, ?_⟩
        have st0 : Step ι1 H1 ι' H2 := a1.trans s2
        cases hb : rb ρ2 S' with
        | ok f ρ3 S3 =>
          rw [hb] at a3
          cases f with
          | nx => exact fun σ3 H3 ι3 st3 g3 => ⟨kill kl ρ3, S3, ι3, st0.trans st3, ⟨kill_non g3.1 kl, g3.2⟩, a3⟩
          | ct => exact fun σ3 H3 ι3 st3 g3 => ⟨kill kl ρ3, S3, ι3, st0.trans st3, ⟨kill_non g3.1 kl, g3.2⟩, a3⟩
          | bk => exact fun σ3 H3 ι3 st3 g3 => a3 σ3 H3 ι3 (st0.trans st3) ⟨kill_non g3.1 kl, g3.2⟩
          | rt d => exact fun v H3 ι3 st3 rs3 rv3 => a3 v H3 ι3 (st0.trans st3) rs3 rv3
        | exc c fs ρ3 S3 => rw [hb] at a3; exact fun dd σ3 H3 ι3 st3 g3 rx => a3 dd σ3 H3 ι3 (st0.trans st3) g3 rx
        | bad => rw [hb] at a3; exact a3.elim
    · rintro σ' H' ⟨ρ', S', ι', a1, a2, a3⟩
      have hh := held a3
      rw [List.drop_length] at a3
      unfold forL at a3
      rw [if_pos hh] at a3
      exact a3 σ' H' ι' a1 a2
/-- a while's turn -/
noncomputable def turnW (rc : Ro → Sto → Res Bool) (rb : Ro → Sto → Sr) (kl : List Nat) : Ro → Sto → Wh := fun ρ S => match rc ρ S with
  | .ok true S1 => match rb ρ (gc S [] S1) with
    | .ok .nx ρ1 S2 => .on (kill kl ρ1) S2
    | .ok .ct ρ1 S2 => .on (kill kl ρ1) S2
    | .ok .bk ρ1 S2 => .out (.ok .nx (kill kl ρ1) S2)
    | r => .out r
  | .ok false S1 => .out (.ok .nx ρ (gc S [] S1))
  | .exc c fs S1 => .out (.exc c fs ρ S1)
  | .bad => .out .bad
theorem whl_of {rc : Ro → Sto → Res Bool} {rb : Ro → Sto → Sr} {kl : List Nat} (h : tS K cl m W (fun ρ S => whL (turnW rc rb kl) ρ S) E σ H) : tWhile (tT K cl m W rc) (tS K cl m W rb) E σ H := by
  obtain ⟨ρ, S, ι, g, hp⟩ := h
  have hp : PstS K cl m W E ι H (whL (turnW rc rb kl) ρ S) := hp
  obtain ⟨n, hn⟩ := whL_end (turn := turnW rc rb kl) (ρ := ρ) (S := S) fun z => by rw [z] at hp; exact hp.elim
  refine ⟨fun j σ' H' => ∃ ρ' S' ι' r, Step ι H ι' H' ∧ Go K cl m ρ' S' ι' σ' H' ∧ iterW (turnW rc rb kl) j ρ' S' = .out r ∧ PstS K cl m W E ι H r, ⟨n, ρ, S, ι, _, Step.refl _ _, g, hn, hp⟩, ?_⟩
  rintro j σ' H' ⟨ρ', S', ι', r, a1, a2, a3, a4⟩
  cases j with
  | zero => cases a3
  | succ j =>
    simp only [iterW] at a3
    refine ⟨ρ', S', ι', a2, ?_⟩
    unfold turnW at a3
    cases hc : rc ρ' S' with
    | bad =>
      rw [hc] at a3
      cases a3
      exact a4.elim
    | exc c fs S1 =>
      rw [hc] at a3
      cases a3
      exact fun dd H1 ι1 st rs rx => a4 dd σ' H1 ι1 (a1.trans st) (a2.step st rs) rx
    | ok b S1 =>
      rw [hc] at a3
      intro b' H1 ι1 st rs hb
      obtain rfl : b' = b := hb
      obtain ⟨ι2, st2, rs2, _, _⟩ := gc_ok (ds := []) a2.2 st rs
      have st0 : Step ι H ι2 H1 := a1.trans st2
      cases b' with
      | false =>
        cases a3
        exact a4 σ' H1 ι2 st0 ⟨a2.1.step st2, rs2⟩
      | true =>
        rw [if_pos rfl]
        refine ⟨fun σ3 H3 => ∃ ρ' S' ι' r, Step ι H ι' H3 ∧ Go K cl m ρ' S' ι' σ3 H3 ∧ iterW (turnW rc rb kl) j ρ' S' = .out r ∧ PstS K cl m W E ι H r, fun σ3 H3 q => ⟨j, Nat.lt_succ_self j, q⟩, ?_⟩
        refine ⟨ρ', gc S' [] S1, ι2, ⟨a2.1.step st2, rs2⟩, ?_⟩
        simp only at a3
        cases hbd : rb ρ' (gc S' [] S1) with
        | ok f ρ3 S3 =>
          rw [hbd] at a3
          cases f with
          | nx => exact fun σ3 H3 ι3 st3 g3 => ⟨kill kl ρ3, S3, ι3, r, st0.trans st3, ⟨kill_non g3.1 kl, g3.2⟩, a3, a4⟩
          | ct => exact fun σ3 H3 ι3 st3 g3 => ⟨kill kl ρ3, S3, ι3, r, st0.trans st3, ⟨kill_non g3.1 kl, g3.2⟩, a3, a4⟩
          | bk =>
            cases a3
            exact fun σ3 H3 ι3 st3 g3 => a4 σ3 H3 ι3 (st0.trans st3) ⟨kill_non g3.1 kl, g3.2⟩
          | rt d =>
            cases a3
            exact fun v H3 ι3 st3 rs3 rv3 => a4 v H3 ι3 (st0.trans st3) rs3 rv3
        | exc c fs ρ3 S3 =>
          rw [hbd] at a3
          cases a3
          exact fun dd σ3 H3 ι3 st3 g3 rx => a4 dd σ3 H3 ι3 (st0.trans st3) g3 rx
        | bad =>
          rw [hbd] at a3
          cases a3
          exact a4.elim
/-- the exception that is caught becomes a place -/
theorem RS.caught {a : Addr} {c : Str} {d : Option Addr} {fs : List (Str × D)} {ι : Pls} {S : Sto} (r : RS K cl none H ι S) (rx : RX K H ι fs d) : RS K cl (some (a, c, d)) H (ι ++ [(a, false)]) (S ++ [.exc c fs]) := by
  have kp : Kp ι H (ι ++ [(a, false)]) H := ⟨fun l q e => by rw [List.getElem?_append_left (List.getElem?_eq_some_iff.mp e).1]; exact e, fun _ _ e _ => e⟩
  have tail : ∀ {l : Nat} {p : Addr × Bool}, (ι ++ [(a, false)])[l]? = some p → ι[l]? = some p ∨ (l = ι.length ∧ p = (a, false)) := fun {l p} e1 => by
    by_cases hl : l < ι.length
    · rw [List.getElem?_append_left hl] at e1
      exact .inl e1
    · have h1 := (List.getElem?_eq_some_iff.mp e1).1
      simp only [List.length_append, List.length_singleton] at h1
      have : l = ι.length := by omega
      subst this
      simp at e1
      exact .inr ⟨rfl, e1.symm⟩
  refine ⟨by simp [r.len], fun l j b e1 e2 => ?_, fun l p o e1 e2 => ?_⟩
  · rcases tail e1 with p1 | ⟨p1, p2⟩ <;> rcases tail e2 with q1 | ⟨q1, q2⟩
    · exact r.nd l j b p1 q1
    · cases congrArg (·.2) q2
    · cases congrArg (·.2) p2
    · rw [p1, q1]
  · rcases tail e1 with p1 | ⟨p1, p2⟩
    · have hl := (List.getElem?_eq_some_iff.mp p1).1
      rw [List.getElem?_append_left (by rw [← r.len]; exact hl)] at e2
      obtain ⟨z1, z2⟩ := r.at_ l p o p1 e2
      refine ⟨z1, ?_⟩
      cases o with
      | lst ds => exact RO.kp kp (fun _ e => e) (.lst ds) z2
      | rls ds => exact RO.kp kp (fun _ e => e) (.rls ds) z2
      | ins c fs => exact RO.kp kp (fun _ e => e) (.ins c fs) z2
      | exc c fs =>
        obtain ⟨d, e, _⟩ := z2
        cases e
    · subst p1
      rw [r.len] at e2
      simp at e2
      subst e2
      subst p2
      exact ⟨rfl, d, rfl, RX.kp kp rx⟩
theorem RS.uncaught {md : Md} {ι : Pls} {S : Sto} (r : RS K cl md H ι S) (h : ∀ (l : Nat) (o : O), S[l]? = some o → o.isExc = false) : RS K cl none H ι S := by
  refine ⟨r.len, r.nd, fun l p o e1 e2 => ?_⟩
  obtain ⟨z1, z2⟩ := r.at_ l p o e1 e2
  refine ⟨z1, ?_⟩
  cases o with
  | lst ds => exact z2
  | rls ds => exact z2
  | ins c fs => exact z2
  | exc c fs => cases h l _ e2
theorem suf_of {md : Md} {i : Nat} {a : Addr} {ι : Pls} {S : Sto} {r : Sr} {W2 : WX} (hl : ι.length = S.length) (h : PstS K cl none W E ι H (sufL S.length i r)) :
    PstS K cl md W2 { nx := fun σ' H' => E.nx (σ'.set i none) H', rt := E.rt, bk := fun σ' H' => E.bk (σ'.set i none) H', ct := fun σ' H' => E.ct (σ'.set i none) H' } (ι ++ [(a, false)]) H r := by
  cases r with
  | bad => exact h
  | exc c fs ρ S => exact h.elim
  | ok f ρ S1 =>
    simp only [sufL] at h
    by_cases hc : f.low S.length = true ∧ lowR S.length (ρ.set i none) = true ∧ S.length ≤ S1.length ∧ (∀ (l : Nat) (o : O), l < S.length → S1[l]? = some o → o.low S.length = true ∧ o.isExc = false)
    · rw [if_pos hc] at h
      obtain ⟨c1, c2, c3, c4⟩ := hc
      have back : ∀ {ι' : Pls} {H' : Hp}, Step (ι ++ [(a, false)]) H ι' H' → RS K cl md H' ι' S1 → Step ι H ι H' ∧ RS K cl none H' ι (S1.take S.length) ∧ ι'.take S.length = ι := fun {ι' H'} st rs => by
        obtain ⟨t, e⟩ := st.pre
        have e2 : ι'.take S.length = ι := by
          rw [e, List.append_assoc, ← hl, List.take_left]
        have r2 := RS.take (n := S.length) rs fun l o h1 h2 => (c4 l o h1 h2).1
        rw [e2] at r2
        refine ⟨⟨⟨[], by simp⟩, fun _ _ h => .inl (List.getElem?_eq_some_iff.mp h).1, fun b o e n => st.keep b o e fun hm mm => ?_, st.there⟩, r2.uncaught fun l o h2 => ?_, e2⟩
        · rcases List.mem_append.mp mm with z | z
          · exact n hm z
          · cases List.mem_singleton.mp z
        · have h1 := (List.getElem?_eq_some_iff.mp h2).1
          rw [List.length_take] at h1
          have h3 : l < S.length := by omega
          rw [List.getElem?_take_of_lt h3] at h2
          exact (c4 l o h3 h2).2
      have names : ∀ {ι' : Pls} {H' : Hp} {σ' : L2.St}, ι'.take S.length = ι → RE K H' ι' ρ σ' → RE K H' ι (ρ.set i none) (σ'.set i none) := fun {ι' H' σ'} e re => by
        have re2 := re.non2 i
        refine ⟨re2.len, fun j d q => ?_⟩
        obtain ⟨v, h1, h2⟩ := re2.at_ j d q
        have hd : d.low S.length = true := by
          have key : ∀ {ρ' : Ro} {j : Nat}, lowR S.length ρ' = true → ρ'[j]? = some (some d) → d.low S.length = true := by
            intro ρ'
            induction ρ' with
            | nil => intro j _ h; simp at h
            | cons x ρ' ih =>
              intro j h1 h2
              cases x with
              | none =>
                cases j with
                | zero => simp at h2
                | succ j => exact ih (j := j) h1 (by simpa using h2)
              | some y =>
                simp only [lowR, Bool.and_eq_true] at h1
                cases j with
                | zero =>
                  simp at h2
                  subst h2
                  exact h1.1
                | succ j => exact ih (j := j) h1.2 (by simpa using h2)
          exact key c2 q
        have := RV.take h2 hd
        rw [e] at this
        exact ⟨v, h1, this⟩
      cases f with
      | rt d =>
        intro v H' ι' st rs rv
        obtain ⟨s1, s2, s3⟩ := back st rs
        have hv := RV.take rv c1
        rw [s3] at hv
        exact h v H' ι s1 s2 hv
      | nx =>
        intro σ' H' ι' st g
        obtain ⟨s1, s2, s3⟩ := back st g.2
        exact h _ H' ι s1 ⟨names s3 g.1, s2⟩
      | bk =>
        intro σ' H' ι' st g
        obtain ⟨s1, s2, s3⟩ := back st g.2
        exact h _ H' ι s1 ⟨names s3 g.1, s2⟩
      | ct =>
        intro σ' H' ι' st g
        obtain ⟨s1, s2, s3⟩ := back st g.2
        exact h _ H' ι s1 ⟨names s3 g.1, s2⟩
    · rw [if_neg hc] at h
      exact h.elim
end
end WL
end
section
set_option Elab.async false
set_option linter.all false
set_option maxRecDepth 100000
set_option maxHeartbeats 4000000
/-! WS: every statement: loops, raise, try; all of them. -/
namespace WL
open PySem L2
section
variable {pg : Pg} {cl : Cl} {k : Nat} {call : Str → List D → Sto → Res D}
theorem sndS_for (t : Tg) (it : Iw) (b : Sms) (kl : List Nat) (ihb : MSs pg cl k call b) : MS pg cl k call (.for_ t it b kl) := by
  intro ck m sc W X st hno O h
  simp only [ckS] at h
  split at h
  · rename_i tg i x hx
    obtain ⟨p, rfl⟩ := xFor_eq hx
    simp only [Bool.and_eq_true] at h
    obtain ⟨⟨⟨h0, h1⟩, h2⟩, h3⟩ := h
    have hcold : ck.hot = false := by simpa using h0
    simp only [evS]
    exact PS.imp (ps_for O.own (O.toXOk.calm hcold) ((sndIt hno O.toXOk h2).1 (O.cold hcold)) (pg_tg O.toXOk h1) (ihb ck m sc W X x hno O h3) fun v => ckI_set h2) fun E σ H q => for_of q
  · cases h
theorem sndS_whl (c : Tx) (b : Sms) (kl : List Nat) (ihb : MSs pg cl k call b) : MS pg cl k call (.whl c b kl) := by
  intro ck m sc W X st hno O h
  simp only [ckS] at h
  split at h
  · rename_i e x hx
    obtain ⟨p, rfl⟩ := xWhl_eq hx
    simp only [Bool.and_eq_true] at h
    simp only [evS]
    exact PS.imp (ps_while O.own (sndTe hno O.toXOk h.1) (ihb ck m sc W X x hno O h.2)) fun E σ H q => whl_of q
  · cases h
theorem sndS_raise (c : Str) (as : Exs) : MS pg cl k call (.raise c as) := by
  intro ck m sc W X st hno O h
  simp only [ckS] at h
  split at h
  · rename_i e hx
    obtain ⟨p, rfl⟩ := xRai_eq hx
    split at h
    · rename_i g es pp hcall
      obtain rfl := xCall_eq hcall
      split at h
      · rename_i x hg
        obtain ⟨p2, rfl⟩ := xName_eq hg
        simp only [Bool.and_eq_true, decide_eq_true_eq] at h
        obtain ⟨⟨⟨⟨h0, rfl⟩, h1⟩, h2⟩, h3⟩ := h
        have hcold : ck.hot = false := by simpa using h0
        have hc := O.toXOk.calm hcold
        have RZ : RzOk pg cl ck X := O.rz hc X.pn X.xe
        have hgl := O.toXOk.gl h1
        simp only [evS]
        rw [Bool.or_eq_true] at h3
        rcases h3 with h3 | h3
        · rw [Bool.and_eq_true] at h3
          obtain ⟨h3, h4⟩ := h3
          obtain ⟨f, hf, mk⟩ := RZ.one m W x h3
          cases as with
          | nil => cases h4
          | cons a r =>
            cases r with
            | cons _ _ => cases h4
            | nil =>
              cases es with
              | nil => cases h4
              | cons y es =>
                cases es with
                | cons _ _ => cases h4
                | nil =>
                  have h4 : ckE ck sc a y = true := h4
                  have ha : PA X [y] (tA X.K cl m W (evEs pg call (.cons a .nil))) := sndAs hno O.toXOk (by simp [ckEs, h4])
                  refine PS.imp (L2N.ps_raise hc O.takes (mk hgl h2 y p2 pp _ (ck_star h4) ha)) fun E σ H q => ?_
                  rw [hf] at q
                  obtain ⟨ρ, S, ι, g, hp⟩ := q
                  refine ⟨ρ, S, ι, g, PstS.of_st (Step.refl _ _) g hp fun ds S1 vs H1 ι1 er st1 rs1 rv1 q1 => ?_⟩
                  have hlen := evEs_len er
                  cases ds with
                  | nil => simp [exLen] at hlen
                  | cons d ds =>
                    cases ds with
                    | cons _ _ => simp [exLen] at hlen
                    | nil =>
                      obtain ⟨v, rfl, rv⟩ := one_rv rv1
                      refine ⟨v, rfl, fun dd H2 nd e2 => ?_⟩
                      subst e2
                      have s2 : Step ι1 H1 ι1 (L2.upd H1 dd (.xd [(f, v)])) := Step.fresh nd
                      exact q1 (some dd) σ _ ι1 (st1.trans s2) ((g.step st1 rs1).step s2 (rs1.fresh nd)) (.inr ⟨dd, _, rfl, upd_same, v, [], rfl, RV.step s2 _ _ rv, rfl⟩)
        · rw [Bool.and_eq_true] at h3
          obtain ⟨hf, mk⟩ := RZ.non x h3.1
          refine PS.imp (L2N.ps_raise hc O.takes (mk hgl h2 es p2 pp h3.2)) fun E σ H q => ?_
          rw [hf] at q
          obtain ⟨ρ, S, ι, g, hp⟩ := q
          exact hp none σ H ι (Step.refl _ _) g (.inl ⟨rfl, rfl⟩)
      · cases h
    · cases h
  · cases h
theorem sndS_try (b : Sms) (c : Str) (i : Nat) (hh : Sms) (ihb : MSs pg cl k call b) (ihh : MSs pg cl k call hh) : MS pg cl k call (.tryAs b c i hh) := by
  intro ck m sc W X st hno O h
  simp only [ckS] at h
  split at h
  · rename_i x ce n su hx
    obtain ⟨s0, r0, p', p, rfl, rfl⟩ := xTry_eq hx
    split at h
    · rename_i cn hcn
      obtain ⟨p2, rfl⟩ := xName_eq hcn
      simp only [Bool.and_eq_true, decide_eq_true_eq] at h
      obtain ⟨⟨⟨⟨⟨⟨⟨⟨h0, rfl⟩, hcl⟩, h1⟩, h2⟩, h3⟩, h4⟩, h5⟩, h6⟩ := h
      have hcl := O.cpg _ hcl
      have hcold : ck.hot = false := by simpa using h0
      have hc := O.toXOk.calm hcold
      have hm : m = none := O.cold hcold
      subst hm
      have hl : X.env.kindOf n = some .local := by
        show X.env.scope.names.lookup n = _
        rw [O.scope]
        split at h4
        · assumption
        · cases h4
      simp only [evS]
      obtain ⟨_, hmg, hex⟩ := O.exa cn hcl
      refine PS.imp (L2N.ps_try_as (Wout := W) (c := .ref (cl cn)) (i := i) (tb := fun W' => tS X.K cl none W' (evSs pg call b))
        (ts := fun a cls d => fun E σ H => ∃ kx, cls = .ref (cl kx) ∧ pg.cls.contains kx = true ∧ tS X.K cl (some (a, kx, d)) WF0 (evSs pg call hh) E σ H) O.hs O.hf O.nd (by rw [O.N]; exact h3) hl ⟨O.toXOk.gl h1, (plain_dbg h2).1, .inl hmg⟩ O.takes ?_ ?_) ?_
      · intro W' pn xe tk own
        refine ihb ck none sc W' (X.tr pn xe) x hno ⟨⟨O.N, O.nd, O.scope, O.fn, tk, O.room, hc, O.cold, O.free, O.fns, O.cpg, O.cls, O.exk, O.exa, O.con⟩, O.hs, O.hf, own, fun hc' pn' xe' => O.rz hc pn' xe'⟩ h5
      · intro a oe cls d pn hz hf
        refine ⟨fun pins s σ H E I q => ?_⟩
        obtain ⟨kx, rfl, exk, q⟩ := q
        obtain ⟨vs, hvs⟩ := hf
        refine (ihh (ckHot ck) (some (a, kx, d)) sc WF0 (X.suite a ((a, oe) :: pn)) (s0 :: r0) hno ⟨⟨O.N, O.nd, O.scope, O.fn, takes_no, ⟨O.room.dp, O.room.un, O.room.gd⟩, ?_, (fun z => by cases z), O.free, O.fns, O.cpg, O.cls, ?_, ?_, O.con⟩, O.hs, O.hf, PassesOwn.never, (fun z => by cases z)⟩ h6).run pins s σ H E I q
        · exact ⟨oe, vs, ⟨rfl, vs, hvs, hz.2.2 vs hvs⟩, List.mem_cons_self, hz, hvs⟩
        · intro a' c' d' e
          cases e
          exact exk
        · intro c' hc'
          obtain ⟨e1, e2, e3⟩ := O.exa c' hc'
          exact ⟨⟨e1.ex, e1.is_, e1.no⟩, e2, e3⟩
      · intro E σ H q
        obtain ⟨ρ, S, ι, g, hp⟩ := q
        refine ⟨ρ, S, ι, g, ?_⟩
        cases hb : evSs pg call b ρ S with
        | ok f ρ1 S1 =>
          simp only [hb] at hp
          cases f <;> exact hp
        | bad =>
          simp only [hb] at hp
          exact hp.elim
        | exc kx fs ρ1 S1 =>
          simp only [hb] at hp
          by_cases hk : pg.cls.contains kx = true ∧ pg.cls.contains cn = true
          · rw [if_pos hk] at hp
            intro dd σ' H' ι' st g' rx
            refine ⟨pg.sub kx cn, hex kx hk.1, fun hs a na => ?_, fun hs => ?_⟩
            · rw [if_pos hs] at hp
              cases hput : putN i (.ref S1.length) ρ1 with
              | none => rw [hput] at hp; exact hp.elim
              | some ρ2 =>
                rw [hput] at hp
                refine ⟨kx, rfl, hk.1, ρ2, _, ι' ++ [(a, false)], ⟨?_, RS.caught g'.2 rx⟩, suf_of g'.2.len (PstS.step st hp)⟩
                have re : RE X.K H' (ι' ++ [(a, false)]) ρ1 σ' := g'.1.kp ⟨fun l q e => by rw [List.getElem?_append_left (List.getElem?_eq_some_iff.mp e).1]; exact e, fun _ _ e _ => e⟩
                exact putN_ok re (rv_ref_of (b := false) (by rw [← g'.2.len]; simp)) hput
            · rw [if_neg (by rw [hs]; decide)] at hp
              exact hp dd σ' H' ι' st g' rx
          · rw [if_neg hk] at hp
            exact hp.elim
    · cases h
  · cases h
end
end WL
end
section
set_option Elab.async false
set_option linter.all false
set_option maxRecDepth 100000
set_option maxHeartbeats 4000000
/-! WT: all statements; a def's promise. -/
namespace WL
open PySem PySem.Spec PyProof.Rows L2
section
variable {pg : Pg} {cl : Cl} {k : Nat} {call : Str → List D → Sto → Res D}
theorem snd_st : (∀ a, MS pg cl k call a) ∧ (∀ a, MSs pg cl k call a) := by
  refine ⟨?_, ?_⟩
  · exact @Sm.rec (MS pg cl k call) (MSs pg cl k call) (fun t e => sndS_asg t e) (fun o i e => sndS_asgI o i e) (fun i o e => sndS_aug i o e) (fun e => sndS_ex e) (fun e => sndS_ret e) (fun c a b h h2 => sndS_iff c a b h h2)
      (fun t it b kl h => sndS_for t it b kl h) (fun c b kl h => sndS_whl c b kl h) (fun c as => sndS_raise c as) (fun b c i hh h h2 => sndS_try b c i hh h h2) sndS_pass sndSs_nil (fun a r h h2 => sndSs_cons a r h h2)
  · exact @Sms.rec (MS pg cl k call) (MSs pg cl k call) (fun t e => sndS_asg t e) (fun o i e => sndS_asgI o i e) (fun i o e => sndS_aug i o e) (fun e => sndS_ex e) (fun e => sndS_ret e) (fun c a b h h2 => sndS_iff c a b h h2)
      (fun t it b kl h => sndS_for t it b kl h) (fun c b kl h => sndS_whl c b kl h) (fun c as => sndS_raise c as) (fun b c i hh h h2 => sndS_try b c i hh h h2) sndS_pass sndSs_nil (fun a r h h2 => sndSs_cons a r h h2)
end
section
variable {K : PySem.W.Frag} {cl : Cl} {m : Md} {H : Hp} {ι ι2 : Pls} {S : Sto}
theorem RF.other : ∀ {fs : List (Str × D)} {gs : List (Str × V)}, (∀ d v, d ∈ fs.map (·.2) → RV K H ι d v → RV K H ι2 d v) → RF K H ι fs gs → RF K H ι2 fs gs
  | [], _, _, h => h
  | (x, d) :: ds, gs, k, h => by
    simp only [RF] at h ⊢
    obtain ⟨v, r, rfl, q, t⟩ := h
    exact ⟨v, r, rfl, k d v (by simp) q, RF.other (fun d v hd => k d v (by simp only [List.map_cons, List.mem_cons]; exact .inr hd)) t⟩
theorem RX.other {fs : List (Str × D)} {dd : Option Addr} (k : ∀ d v, d ∈ fs.map (·.2) → RV K H ι d v → RV K H ι2 d v) (h : RX K H ι fs dd) : RX K H ι2 fs dd := by
  rcases h with h | ⟨da, gs, e1, e2, r⟩
  · exact .inl h
  · exact .inr ⟨da, gs, e1, e2, RF.other k r⟩
theorem start_rel {N : List Str} {ds : List D} {vs : List V} (h : RVs K H ι ds vs) (hl : ds.length ≤ N.length) : RE K H ι (start N.length ds) (L2.start N vs) := by
  have l := RVs.length h
  refine ⟨by simp [start, L2.start, l], fun i d e => ?_⟩
  unfold start at e
  by_cases hi : i < ds.length
  · rw [List.getElem?_append_left (by simpa using hi), List.getElem?_map] at e
    cases q : ds[i]? with
    | none => rw [q] at e; cases e
    | some x =>
      rw [q] at e
      cases e
      obtain ⟨v, e1, e2⟩ := RVs.get h q
      refine ⟨v, ?_, e2⟩
      unfold L2.start
      rw [List.getElem?_append_left (by rw [List.length_map, ← l]; exact hi), List.getElem?_map, e1]
      rfl
  · rw [List.getElem?_append_right (by simpa using hi), List.getElem?_replicate] at e
    split at e <;> cases e
/-- what a body gives, a call gives -/
theorem call_of {pg : Pg} {T : Str → Option Df} {d : Df} {f : Str} {k : Nat} (hT : T f = some d) {ds : List D} {E : XK} {Q : VK} (r : RS K cl m H ι S) (h : PstE K cl m (fun c d _ H' => E c d H') [] ι H (callF pg T (k + 1) f ds S) Q) :
    ds.length = d.np ∧ d.np ≤ d.ns ∧ PstS K cl m (fun c d _ H' => E c d H') { nx := fun _ H' => Q .non H', rt := Q } ι H (evSs pg (callF pg T k) d.body (start d.ns ds) S) := by
  simp only [callF, hT] at h
  obtain ⟨⟨h1, h2⟩, h⟩ := Pst.ite h
  refine ⟨h1, h2, ?_⟩
  cases hb : evSs pg (callF pg T k) d.body (start d.ns ds) S with
  | ok fl ρ1 S1 =>
    rw [hb] at h
    cases fl with
    | nx =>
      intro σ' H' ι' st g
      obtain ⟨ι2, st2, rs2, _, _⟩ := gc_ok (ds := []) r st g.2
      exact h .non H' ι2 st2 rs2 (by simp [RV])
    | rt v =>
      intro u H' ι' st rs rv
      obtain ⟨ι2, st2, rs2, q2, _⟩ := gc_ok (ds := [v]) r st rs
      exact h u H' ι2 st2 rs2 (q2 v u List.mem_cons_self rv)
    | bk => exact h.elim
    | ct => exact h.elim
  | exc c fs ρ1 S1 =>
    rw [hb] at h
    intro dd σ' H' ι' st g rx
    obtain ⟨ι2, st2, rs2, q2, _⟩ := gc_ok (ds := fs.map (·.2)) r st g.2
    exact h dd H' ι2 st2 rs2 (RX.other q2 rx)
  | bad => rw [hb] at h; exact h.elim
end
section
variable {P : Program} {w : World} {K : PySem.W.Frag} {mg : Str → Option Value} {base : Heap} {cl : Cl}
/-- the context of a def's body, by what is asked of it -/
structure BodyX (P : Program) (w : World) (K : PySem.W.Frag) (mg : Str → Option Value) (base : Heap) (cl : Cl) (N : List Str) (scope : Scope) (k : Nat) (m : Md) (W : WX) (X : Cx) : Prop where
  prog : X.prog = P
  w_ : X.w = w
  K_ : X.K = K
  mg_ : X.mg = mg
  base_ : X.base = base
  N_ : X.N = N
  scope_ : X.env.scope = scope
  fn : ∀ x, X.fn x = true
  takes : L2N.Takes X W
  room : RoomG (k + 3) X.A
  mode : ModeX cl m X
  hs : X.stack = X.env :: X.outer
  hf : X.env.frame = some X.env.locals
  own : PassesOwn (model X.prog X.w) X.A X.env X.xe
theorem fnG_def {pg : Pg} {pc : List Str} {T : Str → Option Df} {d : Df} {fname : Str} {k : Nat} {hot : Bool} {f : Addr} {name qual : Str} {params : Arguments} {body : List Stmt} {scope : Scope} {dV kV doc pm cdv ct oc : Value} {an od : Option Addr} {osl : Array (Option Value)} {N ps : List Str}
    (hT : T fname = some d) (lk : K.lookup f = some ⟨oc, od, .func (PySem.W.fnOf name qual params body scope dV kV doc pm an cdv ct), osl⟩) (hcd : PySem.W.codeIn K cdv qual = true) (Sc : FnScope N ps scope) (hps : ps.length = d.np) (hN : N.length = d.ns)
    (hbody : ∀ (m : Md) (W : WX) (X : Cx), ((m = none ∨ hot = true) ∧ ∀ a c d, m = some (a, c, d) → pc.contains c = true) → BodyX P w K mg base cl N scope k m W X → PSs X body (tS X.K cl m W (evSs pg (callF pg T k) d.body))) :
    FnG P w K mg base cl (k + 1) f (PySem.W.fnOf name qual params body scope dV kV doc pm an cdv ct) ps (spG K cl pc d.np hot (callF pg T (k + 1) fname)) := by
  refine ⟨fun m vs H Q E h => by rw [hps]; exact h.2.1, fun A outer s H args us vs Q E m hr hmode e0 hb r hsp => ?_⟩
  obtain ⟨hm, hl0, ds, S, ι, rv, rs, hp⟩ := hsp
  have hl : vs.length = ps.length := by rw [hps]; exact hl0
  have KX : K.In s.heap := e0.mod.kin.keeps fun b o e => (e0.bs b o e).1
  have lim : s.heap.NoLimit := e0.mod.nolimit.keeps fun b o e => (e0.bs b o e).1
  have hkind : ∀ y ∈ ps.zip us, scope.names.lookup y.1 = some .local ∨ (scope.names.lookup y.1 = some .cell ∧ ((cellsFrom (s.heap.objs.size + 1) scope.names []).lookup y.1).isSome = true) := fun y hy => by
    obtain ⟨n, v⟩ := y
    rcases Sc.par n (List.of_mem_zip hy).1 with q | q
    · exact .inl q
    · exact .inr ⟨q, PySem.W.cellsFrom_some _ _ _ (.inl q)⟩
  have dep : A.depth < recursionLimit := by have := hr.dp; omega
  refine codeAny_call_function dep (KX _ _ lk) rfl Sc.co Sc.gen rfl (PySem.W.codeRec_of KX hcd) (hb _ _ _ _ ?_)
  refine wpAny_newFunctionEnv_cells Sc.kind hkind fun env he s1 x => ?_
  subst he
  refine ⟨lim.keeps x.toInCall.keep, codeAny_func ?_⟩
  obtain ⟨h1, h2, hs⟩ := call_of hT rs hp
  have fin : ∀ (X : Cx) {σ' : L2.St} {H' : Hp} {s' : Shared} {v : V} {u : Value}, X.prog = P → X.w = w → X.fs = frs outer → X.ex = [] → X.H_0 = H → X.s_0 = s → Inv X [] σ' H' s' → RelV v u → Q v H' → CE outer P w H s Q u s' := fun X {σ' H' s' v u} e1 e2 e3 e4 e5 e6 J rv q => by
    have os := J.os
    have un := J.base
    have ok := J.hok
    rw [e6] at os
    rw [e3, e4, e5, e6] at un
    rw [e1, e2] at ok
    exact ⟨v, H', os, J.bare, un, ok, rv, q⟩
  have go : ∀ (X : Cx), BodyX P w K mg base cl N scope k m (fun c d _ H' => E c d H') X → X.fs = frs outer → X.ex = [] → X.H_0 = H → X.s_0 = s → Inv X [] (L2.start N vs) H s1 →
      wpAny (model P w) X.A (execs body X.env) (fun fl s' => match fl with
        | .ret u => CE outer P w H s Q u s'
        | .next => CE outer P w H s Q .none s'
        | _ => False) X.xe s1 := fun X B e3 e4 e5 e6 I => by
    have run := (hbody m _ X hm B).run [] s1 (L2.start N vs) H { nx := fun _ H' => Q .non H', rt := Q } I ⟨start d.ns ds, S, ι, ⟨by rw [← hN]; rw [B.K_]; exact start_rel rv (by rw [h1, hN]; exact h2), by rw [B.K_]; exact rs⟩, by rw [B.K_]; exact hs⟩
    rw [B.prog, B.w_] at run
    refine thn run fun fl s' hq => ?_
    cases fl with
    | ret u =>
      obtain ⟨v, σ', H', J, rv', q⟩ := hq
      exact fin X B.prog B.w_ e3 e4 e5 e6 J rv' q
    | next =>
      obtain ⟨σ', H', J, q⟩ := hq
      exact fin X (v := V.non) (u := Value.none) B.prog B.w_ e3 e4 e5 e6 J rfl q
    | brk =>
      obtain ⟨_, _, _, q⟩ := hq
      exact q.elim
    | cont =>
      obtain ⟨_, _, _, q⟩ := hq
      exact q.elim
  cases m with
  | none =>
    have I : Inv (cxOf (L2N.CX P w) P w K mg base N qual scope f cdv A outer s H E) [] (L2.start N vs) H s1 := inv_start Sc hmode e0 hl r x
    refine wpAny_mono (go (cxOf (L2N.CX P w) P w K mg base N qual scope f cdv A outer s H E) ⟨rfl, rfl, rfl, rfl, rfl, rfl, rfl, fun _ => rfl, L2N.takes_of rfl rfl rfl rfl, RoomG.deeper (k := k + 3) hr _, rfl, rfl, rfl, PassesOwn.leaving⟩ rfl rfl rfl rfl I) (fun fl s' hq => ?_) fun e s' hq => hq
    cases fl <;> first | exact hq | exact False.elim hq
  | some p =>
    obtain ⟨a, c, dd⟩ := p
    obtain ⟨oe, fv, hot1, hpin, hz, hfv⟩ := hmode
    have I : Inv (L2H.cxH (L2N.CX P w) P w K mg base N qual scope f cdv A outer s H E (a, oe)) [] (L2.start N vs) H s1 := L2H.inv_startH Sc hpin e0 hl r x
    refine wpAny_mono (go _ ⟨rfl, rfl, rfl, rfl, rfl, rfl, rfl, fun _ => rfl, L2N.takes_of rfl rfl rfl rfl, RoomG.deeper (k := k + 3) hr _, ⟨oe, fv, hot1, List.mem_cons_self, hz, hfv⟩, rfl, rfl, PassesOwn.leaving⟩ rfl rfl rfl rfl I) (fun fl s' hq => ?_) fun e s' hq => hq
    cases fl <;> first | exact hq | exact False.elim hq
end
end WL
end
section
set_option Elab.async false
set_option linter.all false
set_option maxRecDepth 100000
set_option maxHeartbeats 4000000
/-! WU: raising, the module, the law's end. -/
namespace WL
open PySem PySem.Spec PyProof.Rows L2
/-! ### an exception with one field -/
/-- what such an __init__ promises -/
def spI (C : Addr) (f : Str) : Sp := fun vs H Q E => ∃ a y, vs = [.ref a, y] ∧ H a = some (exo a C none) ∧ ∀ d, H d = none → d ≠ a → Q .non (upd (upd H d (exd d [(f, y)])) a (exo a C (some d)))
theorem init_ok {P : Program} {w : World} {K : PySem.W.Frag} {mg : Str → Option Value} {base : Heap} {CX : CXT} {C fI : Addr} {fd : FuncData} {name qual x f : Str} {params : Arguments} {scope : Scope} {p1 p2 p3 p4 : Pos}
    (F : FunD K name qual params [.Assign [.Attribute (.Name "self" p1) f p2] (.Name x p3) p4] scope [] [] fI fd) (Sc : FnScope ["self", x] ["self", x] scope) (T : OexC K C) (hno : PySem.W.findIn K (.ref C) f = some none)
    (hx : (x == ("__debug__" : Str)) = false) (hx2 : (x == ("__classdict__" : Str)) = false) : FnOk P w K mg base CX 1 fI fd ["self", x] (spI C f) := by
  have v0 : Vis scope "self" := by
    rcases Sc.par "self" (by simp) with q | q
    · exact .inl q
    · exact .inr (.inl q)
  have v1 : Vis scope x := by
    rcases Sc.par x (by simp) with q | q
    · exact .inl q
    · exact .inr (.inl q)
  refine F.ok Sc (fun vs H Q E h => ?_) (fun cdv A outer s H vs Q E hr h => ⟨tOst K f (tVar 0) (tVar 1), PSs.nox ?_, ?_⟩)
  · obtain ⟨a, y, rfl, _⟩ := h
    rfl
  · exact pss_one (ps_ost (pe_var (i := 0) rfl v0) (pe_var (i := 1) rfl v1 hx hx2) (swap_no rfl))
  · obtain ⟨a, y, rfl, h1, h2⟩ := h
    exact ⟨y, rfl, .ref a, rfl, a, C, rfl, T, hno, .inl ⟨h1, fun dx n1 n2 => h2 dx n1 n2⟩⟩
/-- C(e): the exception is made -/
theorem mk_one {X : Cx} {x : Str} {C fI : Addr} {k : Nat} {fd : FuncData} {ps : List Str} {sp : Sp} {e : Expr} {ta : TA} {p pos : Pos} (T : OexC X.K C) (iC : PySem.W.findIn X.K (.ref C) "__init__" = some (some (.ref fI))) (tI : PySem.W.typeIn X.K (.ref fI) = some (.type "function"))
    (F1 : FnOk X.prog X.w X.K X.mg X.base (L2N.CX X.prog X.w) k fI fd ps sp) (hr : Room (k + 1) X.A) (hb : Binds X.K fd ps []) (hg : Gl X x) (hm : X.mg x = some (.ref C)) (ha : PA X [e] ta) (hdb : (x == ("__debug__" : Str)) = false) (he : isStar e = false) :
    L2N.PMk X (.Call (.Name x p) [e] [] pos) (tMkO C sp [] ta) := by
  intro pins s σ H Q I h
  obtain ⟨nm, q, N, bs, bm, sn, sub, ab, col, dd, k0, k1, k2, k3, k5, hC, hbm⟩ := T.cls
  refine wpAny_Call_Name_kw (ld_glob I hg hm ?_ hdb)
  refine PySem.W.callWith_K (h₀ := X.base) I.ok.mod.kin T.kC (thn (ha.run pos pins s σ H _ I h) fun us s1 ⟨vs, H1, I1, r1, hz, q1⟩ => ⟨I1.kIn, ?_⟩) (star_of he) rfl
  show wpAny _ _ (PySem.call (.ref C) us) _ _ _
  obtain ⟨hp, g, dr, tk, os⟩ := s1
  generalize ha0 : hp.objs.size + 1 = a0
  have up : hp.objs.size ≤ a0 := by omega
  have q2 := q1 a0 (I1.hok.fresh up)
  rw [List.append_nil] at q2
  generalize hh2 : (hp.push (PySem.W.kdv_tup us)).push (PySem.HandSPX.excO C hp.objs.size) = hp2
  have keep : ∀ b o, hp.get? b = some o → hp2.get? b = some o := fun b o z => by
    subst hh2
    exact Heap.get?_push_of_some _ (Heap.get?_push_of_some _ z)
  have new : hp2.get? a0 = some (PySem.HandSPX.excO C hp.objs.size) := by
    subst hh2 ha0
    heap_get
  have I2 : Inv X pins σ (upd H1 a0 (exo a0 C none)) ⟨hp2, g, dr, tk, os⟩ := I1.laid (t' := tk) (a := a0) (o := exo a0 C none) (h' := hp2) keep up (exo_ok new)
  have r2 : Vals (V.ref a0 :: vs) (Value.ref a0 :: us) := .cons rfl r1
  have hl : (Value.ref a0 :: us).length = ps.length := by rw [← r2.length]; exact F1.len _ _ _ _ q2
  have b2 := hb ⟨hp2, g, dr, tk, os⟩ (Value.ref a0 :: us) I2.kIn (by rw [List.append_nil]; exact hl)
  rw [List.append_nil] at b2
  have few : us.length ≤ sizeLine := by
    rw [← Paired.length r1, sizeLine_eq]
    omega
  have run := F1.run (X.A.under (.builtin "type.__call__" ⟨.ref C :: us, []⟩)) X.stack ⟨hp2, g, dr, tk, os⟩ (upd H1 a0 (exo a0 C none)) ⟨Value.ref a0 :: us, []⟩ (Value.ref a0 :: us) (V.ref a0 :: vs) _ _ (hr.make C us []) (I2.env0.make C us []) b2 r2 q2
  subst ha0 hh2
  refine wpAny_call (PySem.HandSPX.call_own PySem.F.excBase_ValueError (fun Y => PySem.HandSPX.refsVE_contains Y bm hbm) (I1.kIn _ _ hC) (PySem.W.looks_findIn I1.kIn iC) (fun self => PySem.W.bind_fn I1.kIn self tI) few (codeAny_mono run fun r s' hq => ?_))
  cases r with
  | error er => exact (hq.elim fun a ⟨B, H', cls, d, _, _, _, _, _, _, _, z⟩ => z.elim)
  | ok fl =>
    cases fl with
    | next => exact hq.elim
    | brk => exact hq.elim
    | cont => exact hq.elim
    | ret u =>
      obtain ⟨v, H2, os2, bare2, un2, hok2, rv, rfl, d, fs, ea, ed, hd1, q3⟩ := hq
      obtain ⟨h2, g2, d2, t2, os'⟩ := s'
      obtain ⟨t0, G, J, kG, ge, hoe, na⟩ := mk_end0 (d2 := d2) (t2 := t2) I1 up keep un2 hok2 os2 bare2 ea ed hd1
      refine ⟨rv, ⟨_, _, _, ⟨G, g2, d2, t2, os'⟩, _, .ref C, some d, rfl, J, kG, ge, hoe, ⟨rfl, rfl, fun vs hv => ?_⟩, rfl, rfl, na, rfl, bare2, raises_own T.exC T.tyC, q3⟩⟩
      cases hv
      rfl
theorem mk_W {X : Cx} {cl : Cl} {m : Md} {W : WX} {c f : Str} {fI : Addr} {k : Nat} {fd : FuncData} {ps : List Str} {e : Expr} {ra : Ro → Sto → Res (List D)} {p pos : Pos} (T : OexC X.K (cl c)) (iC : PySem.W.findIn X.K (.ref (cl c)) "__init__" = some (some (.ref fI))) (tI : PySem.W.typeIn X.K (.ref fI) = some (.type "function"))
    (F1 : FnOk X.prog X.w X.K X.mg X.base (L2N.CX X.prog X.w) k fI fd ps (spI (cl c) f)) (hc : X.calm = true) (hr : X.A.handled = none → Room (k + 1) X.A) (hb : Binds X.K fd ps []) (hg : Gl X c) (hm : X.mg c = some (.ref (cl c))) (ha : PA X [e] (tA X.K cl m W ra)) (hdb : (c == ("__debug__" : Str)) = false) (he : isStar e = false) :
    L2N.PMk X (.Call (.Name c p) [e] [] pos) (tMk X.K cl m W c f ra) := by
  intro pins s σ H Q I h
  refine mk_one T iC tI F1 (hr (I.ok.hd hc)) hb hg hm ha hdb he pins s σ H Q I ?_
  obtain ⟨ρ, S, ι, g, hp⟩ := h
  refine ⟨ρ, S, ι, g, ?_⟩
  have mono : ∀ {r : Res (List D)} {Q1 Q2 : List V → Hp → Prop}, (∀ vs H, Q1 vs H → Q2 vs H) → Pst X.K cl m W (RVs X.K) σ ι H r Q1 → Pst X.K cl m W (RVs X.K) σ ι H r Q2 := fun {r Q1 Q2} k h => by
    cases r with
    | ok d S => exact fun v H' ι' a b c => k _ _ (h v H' ι' a b c)
    | exc c fs S => exact h
    | bad => exact h
  refine mono (fun vs H1 hq => ?_) hp
  obtain ⟨v, rfl, hq⟩ := hq
  refine ⟨by show 1 ≤ 1000; decide, fun a na => ⟨a, v, rfl, upd_same, fun d nd ne => ⟨rfl, d, [(f, v)], upd_same, ?_, ?_, hq d _ ?_ ?_⟩⟩⟩
  · rw [upd_ne ne, upd_same]
  · rw [upd_ne ne] at nd
    exact nd
  · rw [upd_ne ne] at nd
    exact nd
  · funext b
    unfold upd del
    by_cases hb : b = d
    · simp [hb]
    · by_cases hba : b = a
      · subst hba
        simp [hb, na]
      · simp [hb, hba]
end WL
end
section
set_option Elab.async false
set_option linter.all false
set_option maxRecDepth 100000
set_option maxHeartbeats 4000000
/-! WV: the module's defs, the law's end. -/
namespace WL
open PySem PySem.Spec PyProof.Rows L2
/-- a def of the module -/
structure DR where
  name : Str
  qual : Str
  params : Arguments
  body : List Stmt
  scope : Scope
  N : List Str
  ps : List Str
  df : Df
  fa : Addr
  fd : FuncData
def ckN (c : Ck) (N : List Str) : Ck := { c with N := N, hot := false }
/-- what is known of the module -/
structure Mo (pg : Pg) (cl : Cl) (c : Ck) (T : Str → Option Df) (tab : List DR) (P : Program) (w : World) (K : PySem.W.Frag) (mg : Str → Option Value) (base : Heap) : Prop where
  d1 : ∀ r ∈ tab, FunD K r.name r.qual r.params r.body r.scope [] [] r.fa r.fd
  sc : ∀ r ∈ tab, FnScope r.N r.ps r.scope
  np : ∀ r ∈ tab, r.ps.length = r.df.np
  ns : ∀ r ∈ tab, r.N.length = r.df.ns
  gl : ∀ r ∈ tab, mg r.name = some (.ref r.fa)
  bi : ∀ r ∈ tab, Binds K r.fd r.ps []
  ckd : ∀ r ∈ tab, ckSs (ckN c r.N) ⟨r.scope, r.scope⟩ r.df.body r.body = true
  ckh : ∀ r ∈ tab, c.fh.contains r.name = true → ckSs (ckHot (ckN c r.N)) ⟨r.scope, r.scope⟩ r.df.body r.body = true
  tT : ∀ r ∈ tab, T r.name = some r.df
  fn : ∀ f n, c.fn f = some n → ∃ r ∈ tab, r.name = f ∧ r.df.np = n
  hno : hnoC c
  free : ∀ b ∈ c.bn, mg b = none
  cpg : ∀ x, c.cls.contains x = true → pg.cls.contains x = true
  cls : ∀ x, c.cls.contains x = true → mg x = some (.ref (cl x))
  exa : ∀ x, pg.cls.contains x = true → ExK pg cl c K x ∧ mg x = some (.ref (cl x)) ∧ ∀ k, pg.cls.contains k = true → PySem.W.exmOne K (.ref (cl k)) (.ref (cl x)) = some (pg.sub k x)
  con : ∀ x d, pg.con x = some d → ∃ u v, mg x = some u ∧ RelV v u ∧ ∀ H ι, RV K H ι d v
  rz : ∀ x, c.rz.contains x = true → ∃ f fI fd ps, pg.flds x = some [f] ∧ OexC K (cl x) ∧ PySem.W.findIn K (.ref (cl x)) "__init__" = some (some (.ref fI)) ∧ PySem.W.typeIn K (.ref fI) = some (.type "function") ∧ mg x = some (.ref (cl x)) ∧ Binds K fd ps [] ∧
    FnOk P w K mg base (L2N.CX P w) 1 fI fd ps (spI (cl x) f)
  rn : c.rn = []
section
variable {pg : Pg} {cl : Cl} {c : Ck} {T : Str → Option Df} {tab : List DR}
theorem Mo.all {P : Program} {w : World} {K : PySem.W.Frag} {mg : Str → Option Value} {base : Heap} (M : Mo pg cl c T tab P w K mg base) : ∀ (k : Nat) (r : DR), r ∈ tab → FnG P w K mg base cl k r.fa r.fd r.ps (spG K cl pg.cls r.df.np (c.fh.contains r.name) (callF pg T k r.name))
  | 0, r, hr => by
    refine ⟨fun m vs H Q E h => by rw [M.np r hr]; exact h.2.1, fun A outer s H args us vs Q E m _ _ _ _ _ h => ?_⟩
    obtain ⟨_, _, ds, S, ι, _, _, hp⟩ := h
    exact hp.elim
  | k + 1, r, hr => by
    have ih := Mo.all M k
    obtain ⟨oc, od, dV, kV, doc, pm, an, cdv, ct, osl, e, lk, hcd, _, _⟩ := (M.d1 r hr).ex
    rw [e] at lk ⊢
    refine fnG_def (hT := M.tT r hr) lk hcd (M.sc r hr) (M.np r hr) (M.ns r hr) fun m W X hm B => ?_
    obtain ⟨e1, e2, e3, e4, e5, e6, e7, b1, b2, b3, b4, b5, b6, b7⟩ := B
    subst e1 e2 e3 e4 e5
    have nd : X.N.Nodup := by rw [e6]; exact (M.sc r hr).nd
    have fns : ∀ f n, c.fn f = some n → ∃ fa fd ps, X.mg f = some (.ref fa) ∧ PySem.W.keepIn X.K (.ref fa) = true ∧ Binds X.K fd ps [] ∧ ps.length = n ∧ FnG X.prog X.w X.K X.mg X.base cl k fa fd ps (spG X.K cl pg.cls n (c.fh.contains f) (callF pg T k f)) := fun f n hf => by
      obtain ⟨r2, h2, rfl, rfl⟩ := M.fn f n hf
      exact ⟨r2.fa, r2.fd, r2.ps, M.gl r2 h2, (M.d1 r2 h2).kp, M.bi r2 h2, M.np r2 h2, ih r2 h2⟩
    have exk : ∀ {ck : Ck} {x : Str}, ck.cls = c.cls → ck.flds = c.flds → pg.cls.contains x = true → ExK pg cl ck X.K x := fun {ck x} q1 q2 hx => by
      obtain ⟨⟨a1, a2, a3⟩, _, _⟩ := M.exa x hx
      refine ⟨a1, fun y v u hv hy => a2 y v u ?_ hy, fun f hf => a3 f (by rw [← q2]; exact hf)⟩
      unfold clsV at hv ⊢
      rw [← q1]
      exact hv
    have rz : ∀ {ck : Ck}, ck.rz = c.rz → ck.rn = c.rn → X.calm = true → ∀ (pn : List (Addr × Obj)) (xe : Value → Shared → Prop), RzOk pg cl ck (X.tr pn xe) := fun {ck} q1 q2 hc pn xe => by
      refine ⟨fun m' W' x hx => ?_, fun x hx => ?_⟩
      · rw [q1] at hx
        obtain ⟨f, fI, fd, ps, z1, z2, z3, z4, z5, z6, z7⟩ := M.rz x hx
        refine ⟨f, z1, fun hg hn ee p pos ra hst ha => mk_W (X := X.tr pn xe) z2 z3 z4 z7 hc (fun hh => (RoomG.cold b3 hh).mono (by omega)) z6 hg z5 ha (plain_dbg hn).1 hst⟩
      · rw [q2, M.rn] at hx
        cases hx
    have exa : ∀ {ck : Ck}, ck.cls = c.cls → ck.flds = c.flds → ∀ x, pg.cls.contains x = true → ExK pg cl ck X.K x ∧ X.mg x = some (.ref (cl x)) ∧ ∀ k, pg.cls.contains k = true → PySem.W.exmOne X.K (.ref (cl k)) (.ref (cl x)) = some (pg.sub k x) := fun {ck} q1 q2 x hx => by
      obtain ⟨_, a2, a3⟩ := M.exa x hx
      exact ⟨exk q1 q2 hx, a2, a3⟩
    cases m with
    | none => exact snd_st.2 r.df.body (ckN c r.N) none ⟨r.scope, r.scope⟩ W X r.body M.hno ⟨⟨e6, nd, e7, fun x _ => b1 x, b2, b3, b4, fun _ => rfl, M.free, fns, M.cpg, M.cls, hm.2, exa rfl rfl, M.con⟩, b5, b6, b7, rz rfl rfl⟩ (M.ckd r hr)
    | some p =>
      have hh : c.fh.contains r.name = true := by
        rcases hm.1 with z | z
        · cases z
        · exact z
      exact snd_st.2 r.df.body (ckHot (ckN c r.N)) (some p) ⟨r.scope, r.scope⟩ W X r.body M.hno ⟨⟨e6, nd, e7, fun x _ => b1 x, b2, b3, b4, (fun z => by cases z), M.free, fns, M.cpg, M.cls, hm.2, exa rfl rfl, M.con⟩, b5, b6, b7, rz rfl rfl⟩ (M.ckh r hr hh)
end
/-! ### the law's end -/
section
variable {pg : Pg} {cl : Cl} {P : Program} {w : World} {K : PySem.W.Frag} {mg mb : Str → Option Value} {fa a : Addr} {fd : FuncData} {x : Str} {s₁ : Shared} {vs : List Value} {ns : List Int} {k : Nat} {hot : Bool} {call : List D → Sto → Res D} {Sf : Sto}
theorem rvs_ints {H : Hp} {ι : Pls} : ∀ ns : List Int, RVs K H ι (ns.map D.int) (ns.map V.int)
  | [] => rvs_nil
  | n :: ns => rvs_cons (by simp [RV]) (rvs_ints ns)
theorem law_W (KX : K.In s₁.heap) (hns : s₁.heap.Ns mainGlobals mg) (hb : s₁.heap.Ns builtinsNs mb) (hbb : ∀ x : Str, x ≠ "__name__" → mb x = bootBuiltins x) (hlim : s₁.heap.NoLimit) (hg : s₁.gens = #[])
    (ha : s₁.heap.get? a = some { cls := .type "list", data := .seq vs.toArray }) (hi : IntsAre vs ns) (hl : ns.length ≤ sizeLine) (hr : RoomG (k + 3) callerA)
    (F : ∀ base : Heap, K.In base → base.Ns mainGlobals mg → FnG P w K mg base cl k fa fd [x] (spG K cl pg.cls 1 hot call)) (hbind : ∀ (s : Shared) (u : Value), BindsTo s fd ⟨[u], []⟩ [(x, u)])
    (hlaw : call [.ref 0] [.rls (ns.map .int)] = .ok (.bl true) Sf) :
    codeAny (model P w) callerA (.call (.ref fa) ⟨[.ref a], []⟩) (fun r s' => r = .ok (.ret (.bool true)) ∧ OldK s₁.heap s'.heap ∧ s'.os = s₁.os ∧ AllBare s'.gens) s₁ := by
  have rv := vals_ints hi
  have lenV := hi.length
  have core : ∀ H : Hp, Only H → SqR K H a (ns.map V.int) → HOk P w H s₁.heap → (∀ b, H b ≠ none → b = a) → (H a ≠ none → K.lookup a = none) →
      codeAny (model P w) callerA (.call (.ref fa) ⟨[.ref a], []⟩) (fun r s' => r = .ok (.ret (.bool true)) ∧ OldK s₁.heap s'.heap ∧ s'.os = s₁.os ∧ AllBare s'.gens) s₁ := by
    intro H hO hS hok hA hK
    have dict : ∀ {b : Addr} {o : Obj} {es : Array DictEntry} {ep : Nat}, s₁.heap.get? b = some o → o.data = .dict es ep → H b = none := fun {b o es ep} e d => by
      by_cases hn : H b = none
      · exact hn
      · have e' := hA b hn
        subst e'
        rw [ha] at e
        cases e
        cases d
    have nsK : ∀ {b : Addr} {m : Str → Option Value}, s₁.heap.Ns b m → (hidT s₁.heap H).Ns b m := fun {b m} ⟨o, es, ep, e, d, r⟩ => ⟨o, es, ep, hidT_get e (dict e d), d, r⟩
    have inK : K.In (hidT s₁.heap H) := fun b o e => hidT_get (KX b o e) (by
      by_cases hn : H b = none
      · exact hn
      · have e' := hA b hn
        subst e'
        rw [hK hn] at e
        cases e)
    have e0 : Env0 P w K mg (hidT s₁.heap H) callerA [] s₁ H := ⟨rfl, ⟨inK, nsK hns, ⟨mb, nsK hb, hbb⟩, let ⟨mc, h1, h2⟩ := hlim; ⟨mc, nsK h1, h2⟩⟩, fun b o e => of_hidT e, Nat.le_of_eq (hidT_size _ _), trivial, fun b hb => absurd (show b ∈ ([] : List Addr) from hb) (by simp), hok, .of_eq hg⟩
    have rs : RS K cl none H [(a, false)] [.rls (ns.map .int)] := by
      refine ⟨rfl, fun l m b e1 e2 => ?_, fun l p o e1 e2 => ?_⟩
      · cases l with
        | zero => cases e1
        | succ l => cases e1
      · cases l with
        | zero =>
          cases e1
          cases e2
          exact ⟨rfl, _, hS, rvs_ints ns⟩
        | succ l => cases e1
    refine codeAny_mono ((F _ inK (nsK hns)).run callerA [] s₁ H ⟨[.ref a], []⟩ [.ref a] [.ref a] (fun v _ => v = .bl true) (fun _ _ _ => False) none hr rfl e0 (hbind s₁ (.ref a)) (.cons rfl .nil)
      ⟨⟨.inl rfl, fun _ _ _ z => by cases z⟩, rfl, [.ref 0], [.rls (ns.map .int)], [(a, false)], rvs_cons (rv_ref_of (b := false) rfl) rvs_nil, rs, ?_⟩) fun r s' h => ?_
    · rw [hlaw]
      exact fun v H' ι' _ _ rv => rv_bl rv
    cases r with
    | error e =>
      obtain ⟨_, _, _, _, _, _, _, _, _, _, _, _, z⟩ := h
      exact z.elim
    | ok fl =>
      cases fl with
      | next => exact h.elim
      | brk => exact h.elim
      | cont => exact h.elim
      | ret u =>
        obtain ⟨v, H', os, bare, un, hok', r', q⟩ := h
        have q : v = .bl true := q
        subst q
        obtain rfl : u = Value.bool true := r'
        refine ⟨rfl, OldK.of_keep fun b o e => ?_, os, bare⟩
        rcases hO b with z | ⟨ob, xs, z⟩
        · exact un.keep b o e z (fun m => absurd (show b ∈ ([] : List Addr) from m) (by simp)) (by simp)
        · obtain ⟨e1, _⟩ := hok b _ z
          obtain ⟨e2, _⟩ := hok' b _ (un.frzs b ob _ z)
          rw [e] at e1
          cases e1
          exact e2
  cases hk : K.lookup a with
  | some o =>
    have e := KX a o hk
    rw [ha] at e
    cases e
    exact core (fun _ => none) (fun _ => .inl rfl) (.inr ⟨_, vs.toArray, _, hk, rfl, rfl, rfl, by rw [List.size_toArray, lenV]; exact hl, by simpa using rv⟩) (fun b u z => nomatch (show (none : Option HO) = some u from z)) (fun b z => absurd rfl z) fun z => absurd rfl z
  | none =>
    refine core (L2.upd (fun _ => none) a (.frz { cls := .type "list", data := .seq vs.toArray } (.lst (ns.map V.int)))) (fun b => ?_) (.inl ⟨_, upd_same⟩) (fun b u z => ?_) (fun b z => ?_) fun _ => hk
    · by_cases hb : b = a
      · subst hb
        exact .inr ⟨_, _, upd_same⟩
      · exact .inl (upd_ne hb)
    · by_cases hb : b = a
      · subst hb
        rw [upd_same] at z
        cases z
        exact ⟨ha, by rw [List.length_map]; exact hl, vs, _, rv, ha⟩
      · rw [upd_ne hb] at z
        cases z
    · by_cases hb : b = a
      · exact hb
      · exact absurd (upd_ne hb) z
end
theorem walk_W {l : PySem.W.OpenLaw} {n k : Nat} {q : Program} {loose : List Str} {XP : (Str → Option Value) → Heap → Prop} {YP : World → Heap → Prop} {d : DefRec} {x : Str} {hot : Bool} {pg : Pg} {call : List D → Sto → Res D}
    (hn : l.most = some n) (hn2 : n ≤ sizeLine) (hdf : d.params.defaults = []) (hr : RoomG (k + 3) callerA)
    (hlaw : ∀ ns : List Int, ns.length ≤ n → ∃ Sf, call [.ref 0] [.rls (ns.map .int)] = .ok (.bl true) Sf)
    (F : ∀ (w : World) (mg : Str → Option Value) (fa : Addr) (h : Heap), YP w h → h.Ns mainGlobals mg → mg d.name = some (.ref fa) →
      ∃ (K : PySem.W.Frag) (fd : FuncData) (cl : Cl), K.In h ∧ (∀ (s : Shared) (u : Value), BindsTo s fd ⟨[u], []⟩ [(x, u)]) ∧ ∀ base : Heap, K.In base → base.Ns mainGlobals mg → FnG l.prog w K mg base cl k fa fd [x] (spG K cl pg.cls 1 hot call)) :
    PySem.W.WalkO q loose XP YP l.row.toRowW d [] (fun f vs => PySem.call f vs) := by
  refine Att.attach_call hn hdf fun w s₀ s₁ mg mb fa o pm cd doc a vs ns G Y ho hd hcd hmg hobj hints hlen hg => ?_
  obtain ⟨K, fd, cl, KX, hb, hF⟩ := F w mg fa _ Y G.T.g hmg
  obtain ⟨Sf, hl⟩ := hlaw ns hlen
  exact law_W KX G.T.g G.T.b G.T.builtins G.T.nolimit hg hobj hints (Nat.le_trans hlen hn2) hr hF hb hl
end WL
end
section
set_option Elab.async false
set_option linter.all false
set_option maxRecDepth 100000
set_option maxHeartbeats 4000000
/-! WW: the head's facts, the module from them. -/
namespace WL
open PySem PySem.Spec PyProof.Rows L2
/-! ### exceptions' classes -/
def oexB (K : PySem.W.Frag) (C : Addr) : Bool := (match K.lookup C with
  | some ⟨.type "type", _, .cls cd, sl⟩ => (match cd.mro, sl.toList with
    | .ref C' :: bm, [_, _, _, _, some (.builtin n), _] => C' == C && n == "ValueError.__new__" && !cd.hasDel && cd.hasDict && PySem.HandSPX.refsVE bm
    | _, _ => false)
  | _ => false) && (He.eqO (PySem.W.findIn K (.ref C) "__setattr__") (some (some (.builtin "object.__setattr__"))) && (decide (PySem.W.subIn K (.ref C) (.type "BaseException") = some true) && (decide (PySem.W.typeIn K (.ref C) = some (.type "type")) && PySem.W.keepIn K (.ref C))))
theorem oexB_ok {K : PySem.W.Frag} {C : Addr} (q : oexB K C = true) : OexC K C := by
  unfold oexB at q
  simp only [Bool.and_eq_true, decide_eq_true_eq] at q
  obtain ⟨q, h2, h3, h4, h5⟩ := q
  refine ⟨?_, He.eqO_ok h2, h3, h4, h5⟩
  split at q
  · rename_i dd cd sl ho
    split at q
    · rename_i C' bm k0 k1 k2 k3 n k5 hm hs
      simp only [Bool.and_eq_true, beq_iff_eq, Bool.not_eq_true'] at q
      obtain ⟨⟨⟨⟨rfl, rfl⟩, hdel⟩, hd⟩, ht⟩ := q
      obtain ⟨nm, bs, mro, ns, qn, hdc, sn, sub, ab, col, del⟩ := cd
      dsimp only at hm hdel hd
      subst hm hdel hd
      have hsl : sl = #[k0, k1, k2, k3, some (.builtin "ValueError.__new__"), k5] := by
        obtain ⟨l⟩ := sl
        simp only at hs
        rw [hs]
      subst hsl
      exact ⟨nm, qn, ns, bs, bm, sn, sub, ab, col, dd, k0, k1, k2, k3, k5, ho, ht⟩
    · cases q
  · cases q
def excB (pg : Pg) (c : Ck) (K : PySem.W.Frag) : Bool := (pg.cls.all fun x => exwB K (He.ga K x) && (c.flds.all (fun f => He.eqO (PySem.W.findIn K (.ref (He.ga K x)) f) (some none)) && (decide (PySem.W.kitOne K (.ref (He.ga K x)) (.type "ValueError") = some (pg.sub x "ValueError")) &&
    pg.cls.all fun y => decide (PySem.W.kitOne K (.ref (He.ga K x)) (.ref (He.ga K y)) = some (pg.sub x y)) && decide (PySem.W.exmOne K (.ref (He.ga K x)) (.ref (He.ga K y)) = some (pg.sub x y))))) &&
  c.rz.all fun x => oexB K (He.ga K x) && (He.eqO (PySem.W.findIn K (.ref (He.ga K x)) "__init__") (some (some (.ref (He.ma K (He.ga K x) "__init__")))) && decide (PySem.W.typeIn K (.ref (He.ma K (He.ga K x) "__init__")) = some (.type "function")))
/-! ### the Hook -/
abbrev AlW : Type := Bool × He.AlD
def obsW (fa : List He.Fa) (fn : List He.DefD) (chk : PySem.W.Frag → Bool) (K : PySem.W.Frag) : AlW := (chk K, He.obsD fa fn K)
def valW (fn : List He.DefD) : AlW := (true, He.valD fn)
def obsWG (n : Nat) (fa : List He.Fa) (fn : List He.DefD) (chk : PySem.W.Frag → Bool) (g : Addr → Option Obj) : AlW := obsW fa fn chk (He.frG g (He.asD g n))
def hookW (n : Nat) (fa : List He.Fa) (fn : List He.DefD) (chk : PySem.W.Frag → Bool) : PySem.W.Hook where
  α := AlW
  obs := fun s => obsWG n fa fn chk s.heap.get?
  val := fun _ => valW fn
  says := fun _ h => ∃ K : PySem.W.Frag, K.In h ∧ chk K = true ∧ He.SaysD fa fn K
  of := fun _ _ e => ⟨_, He.frG_in, congrArg (fun z : AlW => z.1) e, congrArg (fun z : AlW => z.2) e⟩
  keeps := fun _ _ _ ⟨K, hK, c⟩ k => ⟨K, PySem.W.Frag.In.keeps hK k, c⟩
theorem obsWG_eq {n : Nat} {fa : List He.Fa} {fn : List He.DefD} {chk : PySem.W.Frag → Bool} {g : Addr → Option Obj} {s : Shared} (h : ∀ a, g a = s.heap.get? a) : obsWG n fa fn chk g = (hookW n fa fn chk).obs s := by
  have e : g = s.heap.get? := funext h
  rw [e] <;> rfl
/-! ### the module -/
structure DE where
  dd : He.DefD
  N : List Str
  ps : List Str
  df : Df
def fnT (ents : List DE) : List (Str × Nat) := ents.map fun e => (e.dd.name, e.df.np)
def dfT (ents : List DE) : Str → Option Df := fun f => (ents.map fun e => (e.dd.name, e.df)).lookup f
noncomputable def fdOf (K : PySem.W.Frag) (d : He.DefD) : FuncData := Classical.epsilon fun fd => FunD K d.name d.qual d.params d.body d.scope [] [] (He.fAd K d.at_) fd
noncomputable def drOf (K : PySem.W.Frag) (e : DE) : DR := ⟨e.dd.name, e.dd.qual, e.dd.params, e.dd.body, e.dd.scope, e.N, e.ps, e.df, He.fAd K e.dd.at_, fdOf K e.dd⟩
structure EOk (fa : List He.Fa) (fn : List He.DefD) (c : Ck) (T : Str → Option Df) (e : DE) : Prop where
  fm : ∃ i : Nat, fn[i]? = some e.dd
  gm : ∃ i : Nat, fa[i]? = some (.glo e.dd.name)
  at_ : e.dd.at_ = (e.dd.name, none)
  dv : ∀ K, e.dd.dvs K = [] ∧ e.dd.kws K = []
  sc : FnScope e.N e.ps e.dd.scope
  np : e.ps.length = e.df.np
  ns : e.N.length = e.df.ns
  bi : ∀ (kV doc pm : Value) (an : Option Addr) (cdv ct : Value) (us : List Value), us.length = e.ps.length → bindArgs (PySem.W.fnOf e.dd.name e.dd.qual e.dd.params e.dd.body e.dd.scope .none kV doc pm an cdv ct) ⟨us, []⟩ = pure (e.ps.zip us)
  ckd : ckSs (ckN c e.N) ⟨e.dd.scope, e.dd.scope⟩ e.df.body e.dd.body = true
  ckh : c.fh.contains e.dd.name = true → ckSs (ckHot (ckN c e.N)) ⟨e.dd.scope, e.dd.scope⟩ e.df.body e.dd.body = true
  tT : T e.dd.name = some e.df
/-- what is known of an own exception's __init__ -/
structure IOk (fn : List He.DefD) (pg : Pg) (c : Ck) (x : Str) : Prop where
  ex : ∃ (i : Nat) (d : He.DefD) (f y : Str) (p1 p2 p3 p4 : Pos), fn[i]? = some d ∧ d.at_ = (x, some ("__init__" : Str)) ∧ (∀ K, d.dvs K = [] ∧ d.kws K = []) ∧ d.body = [.Assign [.Attribute (.Name "self" p1) f p2] (.Name y p3) p4] ∧ FnScope ["self", y] ["self", y] d.scope ∧
    (y == ("__debug__" : Str)) = false ∧ (y == ("__classdict__" : Str)) = false ∧ pg.flds x = some [f] ∧ f ∈ c.flds ∧ x ∈ pg.cls ∧
    ∀ (kV doc pm : Value) (an : Option Addr) (cdv ct : Value) (us : List Value), us.length = 2 → bindArgs (PySem.W.fnOf d.name d.qual d.params d.body d.scope .none kV doc pm an cdv ct) ⟨us, []⟩ = pure ((["self", y] : List Str).zip us)
theorem all_nil {α : Type} {p : α → Prop} : ∀ r ∈ ([] : List α), p r := fun r h => nomatch h
theorem all_cons {α : Type} {p : α → Prop} {a : α} {l : List α} (h : p a) (t : ∀ r ∈ l, p r) : ∀ r ∈ a :: l, p r := fun r hr => by
  rcases List.mem_cons.mp hr with rfl | hr
  · exact h
  · exact t r hr
section
variable {fa : List He.Fa} {fn : List He.DefD} {pg : Pg} {c : Ck} {ents : List DE} {P : Program} {w : World} {K : PySem.W.Frag} {mg : Str → Option Value} {base : Heap}
theorem fdOf_ok (S : He.SaysD fa fn K) {e : DE} {T : Str → Option Df} (E : EOk fa fn c T e) : FunD K e.dd.name e.dd.qual e.dd.params e.dd.body e.dd.scope [] [] (He.fAd K e.dd.at_) (fdOf K e.dd) := by
  obtain ⟨i, hi⟩ := E.fm
  obtain ⟨fd, F⟩ := S.def_ i hi
  obtain ⟨e1, e2⟩ := E.dv K
  rw [e1, e2] at F
  exact Classical.epsilon_spec (p := fun fd => FunD K e.dd.name e.dd.qual e.dd.params e.dd.body e.dd.scope [] [] (He.fAd K e.dd.at_) fd) ⟨fd, F⟩
theorem fAd_ok (X : K.In base) (G : base.Ns mainGlobals mg) (S : He.SaysD fa fn K) {e : DE} {T : Str → Option Df} (E : EOk fa fn c T e) : mg e.dd.name = some (.ref (He.fAd K e.dd.at_)) := by
  obtain ⟨i, hi⟩ := E.gm
  have := He.glo_ok X G (S.fact i hi)
  rw [this, E.at_]
  rfl
theorem mo_of (X : K.In base) (G : base.Ns mainGlobals mg) (S : He.SaysD fa fn K) (hx : excB pg c K = true) (hE : ∀ e ∈ ents, EOk fa fn c (dfT ents) e) (hI : ∀ x ∈ c.rz, IOk fn pg c x)
    (hfn : ∀ f, c.fn f = (fnT ents).lookup f) (hno : hnoC c) (hfree : ∀ b ∈ c.bn, ∃ i : Nat, fa[i]? = some (.free b)) (hcls : c.cls = pg.cls) (hglo : ∀ x ∈ pg.cls, ∃ i : Nat, fa[i]? = some (.glo x)) (hrn : c.rn = [])
    (hcon : ∀ x d, pg.con x = some d → ∃ u v, mg x = some u ∧ RelV v u ∧ ∀ H ι, RV K H ι d v) : Mo pg (He.ga K) c (dfT ents) (ents.map (drOf K)) P w K mg base := by
  have from_ : ∀ {p : DR → Prop}, (∀ e, EOk fa fn c (dfT ents) e → p (drOf K e)) → ∀ r ∈ ents.map (drOf K), p r := fun {p} h r hr => by
    obtain ⟨e, he, rfl⟩ := List.mem_map.mp hr
    exact h e (hE e he)
  unfold excB at hx
  simp only [Bool.and_eq_true, List.all_eq_true, decide_eq_true_eq] at hx
  obtain ⟨hx1, hx2⟩ := hx
  have mgc : ∀ x, pg.cls.contains x = true → mg x = some (.ref (He.ga K x)) := fun x h => by
    obtain ⟨i, hi⟩ := hglo x (List.contains_iff_mem.mp h)
    exact He.glo_ok X G (S.fact i hi)
  refine ⟨from_ fun e E => fdOf_ok S E, from_ fun e E => E.sc, from_ fun e E => E.np, from_ fun e E => E.ns, from_ fun e E => fAd_ok X G S E, from_ fun e E => ?_, from_ fun e E => E.ckd, from_ fun e E => E.ckh, from_ fun e E => E.tT, fun f n h => ?_, hno, fun b hb => ?_, fun x h => by rw [← hcls]; exact h, fun x h => mgc x (by rw [← hcls]; exact h), fun x h => ?_, hcon, fun x h => ?_, hrn⟩
  · exact FunD.bindsN (fdOf_ok S E) E.bi
  · rw [hfn] at h
    have hm := PySem.mem_of_lookup h
    obtain ⟨e, he, q⟩ := List.mem_map.mp hm
    cases q
    exact ⟨drOf K e, List.mem_map.mpr ⟨e, he, rfl⟩, rfl, rfl⟩
  · obtain ⟨i, hi⟩ := hfree b hb
    exact He.free_ok X G (S.fact i hi)
  · have hm := List.contains_iff_mem.mp h
    obtain ⟨a1, a2, a3, a4⟩ := hx1 x hm
    refine ⟨⟨exwB_ok a1, fun y v u hv hy => ?_, fun f hf => He.eqO_ok (a2 f hf)⟩, mgc x h, fun k hk => ((hx1 k (List.contains_iff_mem.mp hk)).2.2.2 x hm).2⟩
    by_cases hc : c.cls.contains y = true
    · unfold clsV at hv
      rw [if_pos hc] at hv
      cases hv
      exact (a4 y (List.contains_iff_mem.mp (by rw [← hcls]; exact hc))).1
    · rcases hy with hy | hy
      · rw [← hcls] at hy
        exact absurd hy hc
      · subst hy
        unfold clsV at hv
        rw [if_neg hc] at hv
        have e : tyN ("ValueError" : Str) = some "ValueError" := by decide
        rw [e] at hv
        cases hv
        exact a3
  · have hm := List.contains_iff_mem.mp h
    obtain ⟨i, d, f, y, p1, p2, p3, p4, h1, h2, h3, h4, h5, h6, h7, h8, h9, h10, h11⟩ := (hI x hm).ex
    obtain ⟨b1, b2, b3⟩ := hx2 x hm
    obtain ⟨fd, F⟩ := S.def_ i h1
    obtain ⟨e1, e2⟩ := h3 K
    rw [e1, e2, h2] at F
    have ad : He.fAd K (x, some ("__init__" : Str)) = He.ma K (He.ga K x) "__init__" := rfl
    rw [ad] at F
    have T := oexB_ok b1
    have bi : Binds K fd ["self", y] [] := FunD.bindsN F h11
    rw [h4] at F
    exact ⟨f, _, fd, _, h8, T, He.eqO_ok b2, b3, mgc x (List.contains_iff_mem.mpr h10), bi, init_ok F h5 T (He.eqO_ok ((hx1 x h10).2.1 f h9)) h6 h7⟩
end
end WL
end
section
set_option Elab.async false
set_option linter.all false
set_option maxRecDepth 100000
set_option maxHeartbeats 4000000
/-! WZ: the interpreter's equations for simp, plain facts. -/
namespace WL
open PySem L2
section
variable (P : Pg) (call : Str → List D → Sto → Res D) (ρ : Ro) (S : Sto)
@[simp] theorem evE_lit (d : D) : evE P call (.lit d) ρ S = .ok d S := by simp only [evE] <;> rfl
@[simp] theorem evE_loc (i : Nat) : evE P call (.loc i) ρ S = (match ρ[i]? with
    | some (some d) => .ok d S
    | _ => .bad) := by simp only [evE] <;> rfl
@[simp] theorem evE_con (y : Str) (d : D) : evE P call (.con y d) ρ S = Res.of (P.con y) S := by simp only [evE] <;> rfl
@[simp] theorem evE_neg (a : Ex) : evE P call (.neg a) ρ S = (evE P call a ρ S).bind fun x S => match x with
    | .int i => .ok (.int (-i)) S
    | _ => .bad := by simp only [evE] <;> rfl
@[simp] theorem evE_bin (o : BO) (a b : Ex) : evE P call (.bin o a b) ρ S = (evE P call a ρ S).bind fun x S => (evE P call b ρ S).bind fun y S => binD o x y S := by simp only [evE] <;> rfl
@[simp] theorem evE_cmp (o : CO) (a b : Ex) : evE P call (.cmp o a b) ρ S = (evE P call a ρ S).bind fun x S => (evE P call b ρ S).bind fun y S => (Res.of (cmpD o x y S) S).bind fun k S => .ok (.bl k) S := by simp only [evE] <;> rfl
@[simp] theorem evE_chn (o p : CO) (a b c : Ex) : evE P call (.chn o p a b c) ρ S = (evE P call a ρ S).bind fun x S => (evE P call b ρ S).bind fun y S => (Res.of (cmpD o x y S) S).bind fun k S => match k with
    | true => (evE P call c ρ S).bind fun z S => (Res.of (cmpD p y z S) S).bind fun k S => .ok (.bl k) S
    | false => .ok (.bl false) S := by simp only [evE] <;> rfl
@[simp] theorem evE_and (as : Exs) : evE P call (.and as) ρ S = evAnd P call as ρ S := by simp only [evE] <;> rfl
@[simp] theorem evE_or (as : Exs) : evE P call (.or as) ρ S = evOr P call as ρ S := by simp only [evE] <;> rfl
@[simp] theorem evE_not (a : Ex) : evE P call (.not a) ρ S = (evE P call a ρ S).bind fun x S => match x with
    | .bl k => .ok (.bl (!k)) S
    | _ => .bad := by simp only [evE] <;> rfl
@[simp] theorem evE_tup (as : Exs) : evE P call (.tup as) ρ S = (evEs P call as ρ S).bind fun xs S => if xs.length ≤ sizeLine then .ok (.tup xs) S else .bad := by simp only [evE] <;> rfl
@[simp] theorem evE_lst (as : Exs) : evE P call (.lst as) ρ S = (evEs P call as ρ S).bind fun xs S => if xs.length ≤ sizeLine then .ok (.ref S.length) (S ++ [.lst xs]) else .bad := by simp only [evE] <;> rfl
@[simp] theorem evE_idx (a i : Ex) : evE P call (.idx a i) ρ S = (evE P call a ρ S).bind fun x S => (evE P call i ρ S).bind fun y S => Res.of (idxD S x y) S := by simp only [evE] <;> rfl
@[simp] theorem evE_cut (a : Ex) (lo hi : Pt) : evE P call (.cut a lo hi) ρ S = (evE P call a ρ S).bind fun x S => (evP P call lo ρ S).bind fun l S => (evP P call hi ρ S).bind fun h S => cutD S x l h := by simp only [evE] <;> rfl
@[simp] theorem evE_call (f : Str) (as : Exs) : evE P call (.call f as) ρ S = (evEs P call as ρ S).bind fun xs S => call f xs S := by simp only [evE] <;> rfl
@[simp] theorem evE_bif (f : BF) (as : Exs) : evE P call (.bif f as) ρ S = (evEs P call as ρ S).bind fun xs S => bifD f xs S := by simp only [evE] <;> rfl
@[simp] theorem evE_mth (m : MF) (o : Ex) (as : Exs) : evE P call (.mth m o as) ρ S = (evE P call o ρ S).bind fun x S => if isL S x = true then (evEs P call as ρ S).bind fun xs S => mthD m x xs S else .bad := by simp only [evE] <;> rfl
@[simp] theorem evE_isi (a : Ex) (cs : List Str) (t : Bool) : evE P call (.isi a cs t) ρ S = (evE P call a ρ S).bind fun x S => (Res.of (isiDs P S x cs) S).bind fun k S => .ok (.bl k) S := by simp only [evE] <;> rfl
@[simp] theorem evE_fld (a : Ex) (f : Str) : evE P call (.fld a f) ρ S = (evE P call a ρ S).bind fun x S => Res.of (fldD S x f) S := by simp only [evE] <;> rfl
/-- a comprehension's turn, its end -/
noncomputable def compT (e : Ex) (t : Tg) (c : Tx) (own : List Nat) : D → Sto → Res (Option D) := fun x S => match putT t x (kill own ρ) with
      | some ρ1 => (evT P call c ρ1 S).bind fun k S1 => match k with
        | true => (evE P call e ρ1 (gc S [] S1)).bind fun d S2 => .ok (some d) (gc S [d] S2)
        | false => .ok none (gc S [] S1)
      | none => .bad
theorem evE_comp (e : Ex) (t : Tg) (it : Iw) (c : Tx) (own : List Nat) : evE P call (.comp e t it c own) ρ S = (evI P call it ρ S).bind fun w S => (compL w.held (compT P call ρ e t c own) w.items S).bind fun ds S => if ds.length ≤ sizeLine then .ok (.ref S.length) (S ++ [.lst ds]) else .bad := by
  simp only [evE]
  rfl
@[simp] theorem evAnd_one (a : Ex) : evAnd P call (.cons a .nil) ρ S = evE P call a ρ S := by simp only [evAnd] <;> rfl
@[simp] theorem evAnd_cons (a b : Ex) (r : Exs) : evAnd P call (.cons a (.cons b r)) ρ S = (evE P call a ρ S).bind fun x S => match x with
    | .bl true => evAnd P call (.cons b r) ρ S
    | .bl false => .ok (.bl false) S
    | _ => .bad := by simp only [evAnd] <;> rfl
@[simp] theorem evOr_one (a : Ex) : evOr P call (.cons a .nil) ρ S = evE P call a ρ S := by simp only [evOr] <;> rfl
@[simp] theorem evOr_cons (a b : Ex) (r : Exs) : evOr P call (.cons a (.cons b r)) ρ S = (evE P call a ρ S).bind fun x S => match x with
    | .bl true => .ok (.bl true) S
    | .bl false => evOr P call (.cons b r) ρ S
    | _ => .bad := by simp only [evOr] <;> rfl
@[simp] theorem evEs_nil : evEs P call .nil ρ S = .ok [] S := by simp only [evEs] <;> rfl
@[simp] theorem evEs_cons (a : Ex) (r : Exs) : evEs P call (.cons a r) ρ S = (evE P call a ρ S).bind fun x S => (evEs P call r ρ S).bind fun xs S => .ok (x :: xs) S := by simp only [evEs] <;> rfl
@[simp] theorem evP_no : evP P call .no ρ S = .ok none S := by simp only [evP] <;> rfl
@[simp] theorem evP_at (a : Ex) : evP P call (.at a) ρ S = (evE P call a ρ S).bind fun x S => match x with
    | .int i => .ok (some i) S
    | _ => .bad := by simp only [evP] <;> rfl
@[simp] theorem evT_yes : evT P call .yes ρ S = .ok true S := by simp only [evT] <;> rfl
@[simp] theorem evT_val (a : Ex) : evT P call (.val a) ρ S = (evE P call a ρ S).bind fun x S => Res.of (truth S x) S := by simp only [evT] <;> rfl
@[simp] theorem evT_and (as : Txs) : evT P call (.and as) ρ S = evTA P call as ρ S := by simp only [evT] <;> rfl
@[simp] theorem evT_or (as : Txs) : evT P call (.or as) ρ S = evTO P call as ρ S := by simp only [evT] <;> rfl
@[simp] theorem evT_not (a : Tx) : evT P call (.not a) ρ S = (evT P call a ρ S).bind fun k S => .ok (!k) S := by simp only [evT] <;> rfl
@[simp] theorem evTA_one (a : Tx) : evTA P call (.cons a .nil) ρ S = evT P call a ρ S := by simp only [evTA] <;> rfl
@[simp] theorem evTA_cons (a b : Tx) (r : Txs) : evTA P call (.cons a (.cons b r)) ρ S = (evT P call a ρ S).bind fun k S => if k = true then evTA P call (.cons b r) ρ S else .ok false S := by simp only [evTA] <;> rfl
@[simp] theorem evTO_one (a : Tx) : evTO P call (.cons a .nil) ρ S = evT P call a ρ S := by simp only [evTO] <;> rfl
@[simp] theorem evTO_cons (a b : Tx) (r : Txs) : evTO P call (.cons a (.cons b r)) ρ S = (evT P call a ρ S).bind fun k S => if k = true then .ok true S else evTO P call (.cons b r) ρ S := by simp only [evTO] <;> rfl
@[simp] theorem evI_seq (a : Ex) : evI P call (.seq a) ρ S = (evE P call a ρ S).bind fun v S1 => wkSeq S v S1 := by simp only [evI] <;> rfl
@[simp] theorem evI_rng1 (a : Ex) : evI P call (.rng1 a) ρ S = (evE P call a ρ S).bind fun v S => match v with
    | .int j => if j ≤ 1000000 ∧ -(2 ^ 62) ≤ j then .ok ⟨rangeD 0 j, []⟩ S else .bad
    | _ => .bad := by simp only [evI] <;> rfl
@[simp] theorem evI_enum (a : Ex) : evI P call (.enum a) ρ S = (evE P call a ρ S).bind fun v S1 => (wkLst S v S1).bind fun w S => .ok ⟨w.items.mapIdx fun (i : Nat) x => .tup [.int i, x], w.hold⟩ S := by simp only [evI] <;> rfl
@[simp] theorem evS_asg (t : Tg) (e : Ex) : evS P call (.asg t e) ρ S = (evE P call e ρ S).st ρ fun d S1 => match putT t d ρ with
    | some ρ1 => .ok .nx ρ1 (gc S [d] S1)
    | none => .bad := by simp only [evS] <;> rfl
@[simp] theorem evS_ret (e : Ex) : evS P call (.ret e) ρ S = (evE P call e ρ S).st ρ fun d S1 => .ok (.rt d) ρ S1 := by simp only [evS] <;> rfl
@[simp] theorem evS_ex (e : Ex) : evS P call (.ex e) ρ S = (evE P call e ρ S).st ρ fun _ S1 => .ok .nx ρ (gc S [] S1) := by simp only [evS] <;> rfl
@[simp] theorem evS_iff (c : Tx) (a b : Sms) : evS P call (.iff c a b) ρ S = (evT P call c ρ S).st ρ fun k S1 => if k = true then evSs P call a ρ (gc S [] S1) else evSs P call b ρ (gc S [] S1) := by simp only [evS] <;> rfl
@[simp] theorem evS_pass : evS P call .pass ρ S = .ok .nx ρ S := by simp only [evS] <;> rfl
@[simp] theorem evS_asgI (o i e : Ex) : evS P call (.asgI o i e) ρ S = (evE P call e ρ S).st ρ fun d S1 => (evE P call o ρ S1).st ρ fun x S2 => (evE P call i ρ S2).st ρ fun y S3 => match x, y with
    | .ref l, .int k => match S3[l]? with
      | some (.lst ds) => match L2.ixN ds.length k with
        | some j => .ok .nx ρ (gc S [] (S3.set l (.lst (ds.set j d))))
        | none => .bad
      | _ => .bad
    | _, _ => .bad := by simp only [evS] <;> rfl
noncomputable def forT (t : Tg) (b : Sms) : D → Ro → Sto → Sr := fun x ρ1 S2 => match putT t x ρ1 with
      | some ρ2 => evSs P call b ρ2 S2
      | none => .bad
theorem evS_for (t : Tg) (it : Iw) (b : Sms) (kl : List Nat) : evS P call (.for_ t it b kl) ρ S = (evI P call it ρ S).st ρ fun w S1 => forL w.held kl (forT P call t b) w.items ρ S1 := by
  simp only [evS]
  rfl
@[simp] theorem evSs_nil : evSs P call .nil ρ S = .ok .nx ρ S := by simp only [evSs] <;> rfl
@[simp] theorem evSs_cons (a : Sm) (r : Sms) : evSs P call (.cons a r) ρ S = (evS P call a ρ S).nx fun ρ1 S1 => evSs P call r ρ1 S1 := by simp only [evSs] <;> rfl
end
theorem ixN_nn {n : Nat} {i : Int} (h : 0 ≤ i) (h2 : i < n) : L2.ixN n i = some i.toNat := by
  unfold L2.ixN
  rw [if_pos h, if_pos h2]
theorem atI_nn {α : Type} {ds : List α} {i : Int} {d : α} (h : 0 ≤ i) (e : ds[i.toNat]? = some d) : L2.atI ds i = some d := by
  have hl := (List.getElem?_eq_some_iff.mp e).1
  unfold L2.atI
  rw [ixN_nn h (by omega)]
  exact e
@[simp] theorem atI_0 {α : Type} (a : α) (l : List α) : L2.atI (a :: l) 0 = some a := atI_nn (by decide) rfl
@[simp] theorem atI_1 {α : Type} (a b : α) (l : List α) : L2.atI (a :: b :: l) 1 = some b := atI_nn (by decide) rfl
@[simp] theorem atI_2 {α : Type} (a b c : α) (l : List α) : L2.atI (a :: b :: c :: l) 2 = some c := atI_nn (by decide) rfl
@[simp] theorem atI_3 {α : Type} (a b c d : α) (l : List α) : L2.atI (a :: b :: c :: d :: l) 3 = some d := atI_nn (by decide) rfl
section
variable (S : Sto)
@[simp] theorem idxD_tup (ds : List D) (k : Int) : idxD S (.tup ds) (.int k) = L2.atI ds k := rfl
theorem idxD_lst {l : Nat} {ds : List D} (h : S[l]? = some (.lst ds)) (k : Int) : idxD S (.ref l) (.int k) = L2.atI ds k := by
  simp only [idxD]
  rw [h]
@[simp] theorem bin_add (i j : Int) : binD .add (.int i) (.int j) S = .ok (.int (i + j)) S := rfl
@[simp] theorem bin_sub (i j : Int) : binD .sub (.int i) (.int j) S = .ok (.int (i - j)) S := rfl
@[simp] theorem cmp_lt (i j : Int) : cmpD .lt (.int i) (.int j) S = some (decide (i < j)) := rfl
@[simp] theorem cmp_le (i j : Int) : cmpD .le (.int i) (.int j) S = some (decide (i ≤ j)) := rfl
@[simp] theorem cmp_gt (i j : Int) : cmpD .gt (.int i) (.int j) S = some (decide (j < i)) := rfl
@[simp] theorem cmp_ge (i j : Int) : cmpD .ge (.int i) (.int j) S = some (decide (j ≤ i)) := rfl
@[simp] theorem cmp_eqI (i j : Int) : cmpD .eq (.int i) (.int j) S = some (decide (i = j)) := by
  unfold cmpD eqD eqP
  simp only [pd, PyData.eqv]
  by_cases h : i = j <;> simp [h]
@[simp] theorem cmp_isN (x : D) : cmpD .is_ x .non S = some (match x with | .non => true | _ => false) := rfl
@[simp] theorem cmp_notN (x : D) : cmpD .isn x .non S = some (match x with | .non => false | _ => true) := rfl
theorem mem_ints (x : Int) (xs : List Int) : memD (.int x) (xs.map .int) = some (xs.contains x) := by
  unfold memD
  have h : (isFlat (.int x) && (xs.map D.int).all isFlat) = true := by
    simp [isFlat]
  rw [if_pos h]
  congr 1
  induction xs with
  | nil => rfl
  | cons a l ih =>
    simp only [List.map_cons, List.any_cons, List.contains_cons]
    rw [ih (by simp [isFlat])]
    simp only [flEq]
    rw [Bool.beq_comm]
@[simp] theorem cmp_inT (x : Int) (xs : List Int) : cmpD .in_ (.int x) (.tup (xs.map .int)) S = some (xs.contains x) := mem_ints x xs
@[simp] theorem cmp_ninT (x : Int) (xs : List Int) : cmpD .nin (.int x) (.tup (xs.map .int)) S = some (!xs.contains x) := by
  show ((itemsOf S (.tup (xs.map .int))).bind (memD (.int x))).map (!·) = _
  show (memD (.int x) (xs.map .int)).map (!·) = _
  rw [mem_ints]
  rfl
@[simp] theorem truth_bl (b : Bool) : truth S (.bl b) = some b := rfl
end
end WL
end
section
set_option Elab.async false
set_option linter.all false
set_option maxRecDepth 100000
set_option maxHeartbeats 4000000
/-! WZ2: loops and comprehensions, plainly. -/
namespace WL
open PySem L2
theorem wkSeq_old {S : Sto} {l : Nat} {ds : List D} (h : S[l]? = some (.lst ds)) : wkSeq S (.ref l) S = .ok ⟨ds, [(l, ds)]⟩ S := by
  have hl := (List.getElem?_eq_some_iff.mp h).1
  simp only [wkSeq, h]
  rw [if_neg (by omega)]
theorem wkLst_old {S : Sto} {l : Nat} {ds : List D} (h : S[l]? = some (.lst ds)) : wkLst S (.ref l) S = .ok ⟨ds, [(l, ds)]⟩ S := wkSeq_old h
theorem wkSeq_rls {S0 S : Sto} {l : Nat} {ds : List D} (h : S[l]? = some (.rls ds)) : wkSeq S0 (.ref l) S = .ok ⟨ds, [(l, ds)]⟩ S := by simp only [wkSeq, h]
@[simp] theorem wkSeq_tup (S0 S : Sto) (ds : List D) : wkSeq S0 (.tup ds) S = .ok ⟨ds, []⟩ S := rfl
@[simp] theorem held_nil (xs : List D) (S : Sto) : Wk.held ⟨xs, []⟩ S ↔ True := by simp [Wk.held]
/-- a fresh list that is walked -/
theorem wkSeq_new {S : Sto} {ds : List D} (h : lows S.length ds = true) : wkSeq S (.ref S.length) (S ++ [.lst ds]) = .ok ⟨ds, []⟩ S := by
  have e : (S ++ [O.lst ds])[S.length]? = some (.lst ds) := by simp
  simp only [wkSeq, e]
  rw [if_pos ⟨Nat.le_refl _, h, by simp, fun l hl => .inl (by rw [List.getElem?_append_left hl])⟩]
  simp
section
variable {α : Type} {hold : Sto → Prop} {kl : List Nat} {step : D → Ro → Sto → Sr} {ρ : Ro} {S : Sto}
/-- a loop that looks for the first hit -/
theorem forL_find {xs : List α} (f : α → D) (q : α → Bool) (r : α → D) (hh : hold S) (h1 : ∀ x ∈ xs, q x = true → ∃ ρ', step (f x) ρ S = .ok (.rt (r x)) ρ' S) (h0 : ∀ x ∈ xs, q x = false → ∃ ρ', step (f x) ρ S = .ok .nx ρ' S ∧ kill kl ρ' = ρ) :
    (∀ x, xs.find? q = some x → ∃ ρ', forL hold kl step (xs.map f) ρ S = .ok (.rt (r x)) ρ' S) ∧ (xs.find? q = none → forL hold kl step (xs.map f) ρ S = .ok .nx ρ S) := by
  induction xs with
  | nil =>
    refine ⟨fun x hx => (nomatch hx), fun _ => ?_⟩
    simp only [List.map_nil, forL]
    rw [if_pos hh]
  | cons a l ih =>
    obtain ⟨i1, i2⟩ := ih (fun x hx => h1 x (List.mem_cons_of_mem _ hx)) (fun x hx => h0 x (List.mem_cons_of_mem _ hx))
    simp only [List.map_cons, forL]
    rw [if_pos hh]
    cases hq : q a with
    | true =>
      obtain ⟨ρ', e⟩ := h1 a List.mem_cons_self hq
      rw [e]
      simp only [List.find?_cons, hq]
      exact ⟨fun x hx => by cases hx; exact ⟨ρ', rfl⟩, fun hx => nomatch hx⟩
    | false =>
      obtain ⟨ρ', e, ek⟩ := h0 a List.mem_cons_self hq
      rw [e]
      simp only [ek, List.find?_cons, hq]
      exact ⟨i1, i2⟩
theorem mapIdx_zip {β : Type} (xs : List α) (g : α → D) (F : Nat → D → β) : (xs.map g).mapIdx F = xs.zipIdx.map fun p => F p.2 (g p.1) := by
  rw [List.mapIdx_eq_zipIdx_map, List.zipIdx_map, List.map_map]
  rfl
/-- a comprehension that leaves the store as it was -/
theorem compL_pure {xs : List α} (f : α → D) (q : α → Bool) (r : α → D) {turn : D → Sto → Res (Option D)} (hh : hold S) (h : ∀ x ∈ xs, turn (f x) S = .ok (if q x = true then some (r x) else none) S) :
    compL hold turn (xs.map f) S = .ok ((xs.filter q).map r) S := by
  induction xs with
  | nil =>
    simp only [List.map_nil, compL]
    rw [if_pos hh]
    rfl
  | cons a l ih =>
    simp only [List.map_cons, compL]
    rw [if_pos hh, h a List.mem_cons_self]
    simp only
    rw [ih fun x hx => h x (List.mem_cons_of_mem _ hx)]
    cases hq : q a <;> simp [hq]
end
theorem gc_len {S S' : Sto} {ds : List D} (h : S'.length = S.length) : gc S ds S' = S' := by
  unfold gc
  split
  · rw [← h, List.take_length]
  · rfl
@[simp] theorem lows_nil (n : Nat) : lows n [] = true := rfl
@[simp] theorem lows_cons (n : Nat) (d : D) (ds : List D) : lows n (d :: ds) = (d.low n && lows n ds) := rfl
theorem lows_map {α : Type} {n : Nat} (f : α → D) (h : ∀ x, (f x).low n = true) : ∀ xs : List α, lows n (xs.map f) = true
  | [] => rfl
  | x :: xs => by simp [h x, lows_map f h xs]
@[simp] theorem low_int (n : Nat) (i : Int) : (D.int i).low n = true := rfl
@[simp] theorem low_bl (n : Nat) (i : Bool) : (D.bl i).low n = true := rfl
@[simp] theorem low_non (n : Nat) : (D.non).low n = true := rfl
@[simp] theorem low_str (n : Nat) (i : Str) : (D.str i).low n = true := rfl
@[simp] theorem low_tup (n : Nat) (ds : List D) : (D.tup ds).low n = lows n ds := rfl
@[simp] theorem low_ref (n l : Nat) : (D.ref l).low n = decide (l < n) := rfl
/-- a new thing that is named stays -/
theorem gc_keep {S S' : Sto} {ds : List D} (h : lows S.length ds = false) : gc S ds S' = S' := by
  unfold gc
  rw [if_neg (by rw [h]; simp)]
end WL
end
section
set_option Elab.async false
set_option linter.all false
set_option maxRecDepth 100000
set_option maxHeartbeats 0
namespace KT
open PySem PySem.Spec PyProof.Rows L2 WL
def top (i : Nat) : Stmt := PySem.Challenge.pw_workwishes_k36_no_room.main.body.getD i (.Pass ⟨0, 0, 0, 0⟩)
abbrev s_end_of : Stmt := top 9
def d_end_of : He.DefD := ⟨("end_of", none), "end_of", "end_of", defArgs s_end_of, defBody s_end_of, defScope s_end_of, [], []⟩
def a_end_of : Sms := (.cons (.ret (.bin .add (.idx (.loc 2) (.lit (.int 0))) (.idx (.idx (.idx (.loc 0) (.lit (.int 2))) (.loc 1)) (.lit (.int 0))))) .nil)
def e_end_of : DE := ⟨d_end_of, ["system", "work", "way"], ["system", "work", "way"], ⟨3, 3, a_end_of⟩⟩
abbrev s_is_behind : Stmt := top 10
def d_is_behind : He.DefD := ⟨("is_behind", none), "is_behind", "is_behind", defArgs s_is_behind, defBody s_is_behind, defScope s_is_behind, [], []⟩
def a_is_behind : Sms := (.cons (.ret (.and (.cons (.cmp .in_ (.loc 1) (.idx (.idx (.idx (.loc 0) (.lit (.int 2))) (.loc 3)) (.lit (.int 1)))) (.cons (.cmp .lt (.idx (.loc 4) (.lit (.int 0))) (.call "end_of" (.cons (.loc 0) (.cons (.loc 1) (.cons (.loc 2) .nil))))) .nil)))) .nil)
def e_is_behind : DE := ⟨d_is_behind, ["system", "one", "way", "other", "other_way"], ["system", "one", "way", "other", "other_way"], ⟨5, 5, a_is_behind⟩⟩
abbrev s_clash : Stmt := top 11
def d_clash : He.DefD := ⟨("clash", none), "clash", "clash", defArgs s_clash, defBody s_clash, defScope s_clash, [], []⟩
def a_clash : Sms := (.cons (.iff (.and (.cons (.val (.cmp .eq (.idx (.loc 2) (.lit (.int 1))) (.idx (.loc 4) (.lit (.int 1))))) (.cons (.val (.cmp .lt (.idx (.loc 2) (.lit (.int 0))) (.call "end_of" (.cons (.loc 0) (.cons (.loc 3) (.cons (.loc 4) .nil)))))) (.cons (.val (.cmp .lt (.idx (.loc 4) (.lit (.int 0))) (.call "end_of" (.cons (.loc 0) (.cons (.loc 1) (.cons (.loc 2) .nil)))))) .nil)))) (.cons (.ret (.lit (.bl true))) .nil) .nil) (.cons (.ret (.or (.cons (.call "is_behind" (.cons (.loc 0) (.cons (.loc 1) (.cons (.loc 2) (.cons (.loc 3) (.cons (.loc 4) .nil)))))) (.cons (.call "is_behind" (.cons (.loc 0) (.cons (.loc 3) (.cons (.loc 4) (.cons (.loc 1) (.cons (.loc 2) .nil)))))) .nil)))) .nil))
def e_clash : DE := ⟨d_clash, ["system", "one", "way", "other", "other_way"], ["system", "one", "way", "other", "other_way"], ⟨5, 5, a_clash⟩⟩
abbrev s_goes_with : Stmt := top 13
def d_goes_with : He.DefD := ⟨("goes_with", none), "goes_with", "goes_with", defArgs s_goes_with, defBody s_goes_with, defScope s_goes_with, [], []⟩
def a_goes_with : Sms := (.cons (.for_ (.tp [4, 5]) (.enum (.loc 1)) (.cons (.iff (.and (.cons (.val (.cmp .isn (.loc 5) (.lit .non))) (.cons (.val (.call "clash" (.cons (.loc 0) (.cons (.loc 2) (.cons (.loc 3) (.cons (.loc 4) (.cons (.loc 5) .nil))))))) .nil))) (.cons (.ret (.lit (.bl false))) .nil) .nil) .nil) [4, 5]) (.cons (.ret (.lit (.bl true))) .nil))
def e_goes_with : DE := ⟨d_goes_with, ["system", "given", "work", "way", "other", "other_way"], ["system", "given", "work", "way"], ⟨4, 6, a_goes_with⟩⟩
abbrev s_first_way : Stmt := top 14
def d_first_way : He.DefD := ⟨("first_way", none), "first_way", "first_way", defArgs s_first_way, defBody s_first_way, defScope s_first_way, [], []⟩
def a_first_way : Sms := (.cons (.for_ (.nm 4) (.seq (.loc 3)) (.cons (.iff (.val (.call "goes_with" (.cons (.loc 0) (.cons (.loc 1) (.cons (.loc 2) (.cons (.loc 4) .nil)))))) (.cons (.ret (.loc 4)) .nil) .nil) .nil) [4]) (.cons (.ret (.lit .non)) .nil))
def e_first_way : DE := ⟨d_first_way, ["system", "given", "work", "row", "way"], ["system", "given", "work", "row"], ⟨4, 5, a_first_way⟩⟩
abbrev s_by_order : Stmt := top 15
def d_by_order : He.DefD := ⟨("by_order", none), "by_order", "by_order", defArgs s_by_order, defBody s_by_order, defScope s_by_order, [], []⟩
def a_by_order : Sms := (.cons (.asg (.nm 3) (.bin .mul (.lst (.cons (.lit .non) .nil)) (.bif .len (.cons (.loc 2) .nil)))) (.cons (.for_ (.nm 4) (.seq (.loc 2)) (.cons (.asg (.nm 5) (.call "first_way" (.cons (.loc 0) (.cons (.loc 3) (.cons (.loc 4) (.cons (.idx (.loc 1) (.loc 4)) .nil)))))) (.cons (.iff (.val (.cmp .is_ (.loc 5) (.lit .non))) (.cons (.raise "NoRoom" (.cons (.loc 4) .nil)) .nil) .nil) (.cons (.asgI (.loc 3) (.loc 4) (.loc 5)) .nil))) [4, 5]) (.cons (.ret (.bif .tup (.cons (.loc 3) .nil))) .nil)))
def e_by_order : DE := ⟨d_by_order, ["system", "field", "order", "given", "work", "way"], ["system", "field", "order"], ⟨3, 6, a_by_order⟩⟩
abbrev s__law_deck : Stmt := top 17
def d__law_deck : He.DefD := ⟨("_law_deck", none), "_law_deck", "_law_deck", defArgs s__law_deck, defBody s__law_deck, defScope s__law_deck, [], []⟩
def a__law_deck : Sms := (.cons (.asg (.nm 1) (.lst .nil)) (.cons (.asg (.nm 2) (.lst (.cons (.bif .len (.cons (.loc 0) .nil)) .nil))) (.cons (.for_ (.nm 3) (.seq (.cut (.loc 0) .no (.at (.lit (.int 60))))) (.cons (.asg (.nm 3) (.bif .abs (.cons (.loc 3) .nil))) (.cons (.ex (.mth .append (.loc 2) (.cons (.bin .mod (.loc 3) (.lit (.int 2147483629))) .nil))) (.cons (.whl (.and (.cons (.val (.cmp .ge (.loc 3) (.bin .pow (.lit (.int 10)) (.lit (.int 18))))) (.cons (.val (.cmp .lt (.bif .len (.cons (.loc 1) .nil)) (.lit (.int 900)))) .nil))) (.cons (.ex (.mth .append (.loc 1) (.cons (.bin .mod (.loc 3) (.lit (.int 2147483629))) .nil))) (.cons (.asg (.nm 3) (.bin .div (.loc 3) (.lit (.int 2147483629)))) .nil)) []) .nil))) [3]) (.cons (.ret (.lst (.cons (.loc 1) (.cons (.loc 2) (.cons (.lit (.int 0)) .nil))))) .nil))))
def e__law_deck : DE := ⟨d__law_deck, ["_law_script", "_law_digits", "_law_cells", "_law_cell"], ["_law_script"], ⟨1, 4, a__law_deck⟩⟩
abbrev s__law_next : Stmt := top 18
def d__law_next : He.DefD := ⟨("_law_next", none), "_law_next", "_law_next", defArgs s__law_next, defBody s__law_next, defScope s__law_next, [], []⟩
def a__law_next : Sms := (.cons (.iff (.val (.cmp .ne (.idx (.loc 0) (.lit (.int 0))) (.lst .nil))) (.cons (.ret (.mth .pop1 (.idx (.loc 0) (.lit (.int 0))) (.cons (.lit (.int 0)) .nil))) .nil) .nil) (.cons (.asg (.nm 1) (.idx (.loc 0) (.lit (.int 2)))) (.cons (.asgI (.loc 0) (.lit (.int 2)) (.bin .add (.loc 1) (.lit (.int 1)))) (.cons (.asg (.nm 2) (.tup (.cons (.lit (.int 48271)) (.cons (.lit (.int 69621)) (.cons (.lit (.int 16807)) (.cons (.lit (.int 39373)) (.cons (.lit (.int 30323)) (.cons (.lit (.int 51749)) (.cons (.lit (.int 44417)) (.cons (.lit (.int 27449)) (.cons (.lit (.int 63073)) (.cons (.lit (.int 55001)) (.cons (.lit (.int 33791)) (.cons (.lit (.int 40009)) .nil)))))))))))))) (.cons (.asg (.nm 3) (.bin .add (.idx (.idx (.loc 0) (.lit (.int 1))) (.bin .mod (.bin .add (.loc 1) (.lit (.int 1))) (.bif .len (.cons (.idx (.loc 0) (.lit (.int 1))) .nil)))) (.bin .mul (.lit (.int 7)) (.loc 1)))) (.cons (.asg (.nm 4) (.bin .mod (.bin .pow (.bin .add (.loc 3) (.bin .mul (.idx (.loc 2) (.bin .mod (.loc 1) (.lit (.int 12)))) (.bin .add (.loc 1) (.lit (.int 1))))) (.lit (.int 5))) (.lit (.int 2147483647)))) (.cons (.ret (.bin .mod (.bin .add (.loc 4) (.bin .mul (.idx (.loc 2) (.bin .mod (.bin .add (.loc 1) (.lit (.int 5))) (.lit (.int 12)))) (.loc 3))) (.lit (.int 2147483629)))) .nil)))))))
def e__law_next : DE := ⟨d__law_next, ["_law_deck_here", "_law_at", "_law_primes", "_law_cell", "_law_mixed"], ["_law_deck_here"], ⟨1, 5, a__law_next⟩⟩
abbrev s__law_put : Stmt := top 19
def d__law_put : He.DefD := ⟨("_law_put", none), "_law_put", "_law_put", defArgs s__law_put, defBody s__law_put, defScope s__law_put, [], []⟩
def a__law_put : Sms := (.cons (.ret (.bin .add (.bin .add (.cut (.loc 0) .no (.at (.loc 1))) (.tup (.cons (.loc 2) .nil))) (.cut (.loc 0) (.at (.bin .add (.loc 1) (.lit (.int 1)))) .no))) .nil)
def e__law_put : DE := ⟨d__law_put, ["_law_row", "_law_at", "_law_thing"], ["_law_row", "_law_at", "_law_thing"], ⟨3, 3, a__law_put⟩⟩
abbrev s__law_same : Stmt := top 20
def d__law_same : He.DefD := ⟨("_law_same", none), "_law_same", "_law_same", defArgs s__law_same, defBody s__law_same, defScope s__law_same, [], []⟩
def a__law_same : Sms := (.cons (.ret (.cmp .eq (.bif .repr (.cons (.loc 0) .nil)) (.bif .repr (.cons (.loc 1) .nil)))) .nil)
def e__law_same : DE := ⟨d__law_same, ["_law_found", "_law_due"], ["_law_found", "_law_due"], ⟨2, 2, a__law_same⟩⟩
abbrev s__law_rows_of : Stmt := top 21
def d__law_rows_of : He.DefD := ⟨("_law_rows_of", none), "_law_rows_of", "_law_rows_of", defArgs s__law_rows_of, defBody s__law_rows_of, defScope s__law_rows_of, [], []⟩
def a__law_rows_of : Sms := (.cons (.ret (.bif .tup (.cons (.comp (.loc 3) (.nm 3) (.rng1 (.bin .add (.loc 1) (.lit (.int 1)))) (.val (.cmp .eq (.bin .mod (.call "_law_next" (.cons (.loc 0) .nil)) (.loc 2)) (.lit (.int 0)))) [3]) .nil))) .nil)
def e__law_rows_of : DE := ⟨d__law_rows_of, ["_law_deck_here", "_law_high", "_law_some", "_law_one"], ["_law_deck_here", "_law_high", "_law_some"], ⟨3, 4, a__law_rows_of⟩⟩
abbrev s__law_work : Stmt := top 22
def d__law_work : He.DefD := ⟨("_law_work", none), "_law_work", "_law_work", defArgs s__law_work, defBody s__law_work, defScope s__law_work, [], []⟩
def a__law_work : Sms := (.cons (.asg (.nm 4) (.bin .add (.lit (.int 1)) (.bin .mod (.call "_law_next" (.cons (.loc 0) .nil)) (.loc 3)))) (.cons (.asg (.nm 5) (.call "_law_rows_of" (.cons (.loc 0) (.cons (.bin .sub (.loc 1) (.lit (.int 1))) (.cons (.idx (.lst (.cons (.lit (.int 3)) (.cons (.lit (.int 5)) (.cons (.lit (.int 100)) .nil)))) (.bin .mod (.call "_law_next" (.cons (.loc 0) .nil)) (.lit (.int 3)))) .nil))))) (.cons (.asg (.nm 6) (.bin .mod (.call "_law_next" (.cons (.loc 0) .nil)) (.lit (.int 3)))) (.cons (.asg (.nm 7) (.bif .tup (.cons (.comp (.loc 8) (.nm 8) (.rng1 (.loc 2)) (.or (.cons (.val (.cmp .eq (.loc 6) (.lit (.int 0)))) (.cons (.val (.cmp .eq (.bin .mod (.call "_law_next" (.cons (.loc 0) .nil)) (.lit (.int 2))) (.lit (.int 0)))) .nil))) [8]) .nil))) (.cons (.iff (.val (.cmp .eq (.loc 7) (.tup .nil))) (.cons (.asg (.nm 7) (.tup (.cons (.bin .mod (.call "_law_next" (.cons (.loc 0) .nil)) (.loc 2)) .nil))) .nil) .nil) (.cons (.ret (.tup (.cons (.loc 4) (.cons (.loc 5) (.cons (.loc 7) .nil))))) .nil))))))
def e__law_work : DE := ⟨d__law_work, ["_law_deck_here", "_law_number", "_law_hands", "_law_length", "_law_much", "_law_ahead", "_law_way", "_law_able", "_law_hand"], ["_law_deck_here", "_law_number", "_law_hands", "_law_length"], ⟨4, 9, a__law_work⟩⟩
abbrev s__law_wish : Stmt := top 23
def d__law_wish : He.DefD := ⟨("_law_wish", none), "_law_wish", "_law_wish", defArgs s__law_wish, defBody s__law_wish, defScope s__law_wish, [], []⟩
def a__law_wish : Sms := (.cons (.asg (.nm 3) (.idx (.lst (.cons (.lit (.int 1)) (.cons (.lit (.int 2)) (.cons (.lit (.int 4)) .nil)))) (.bin .mod (.call "_law_next" (.cons (.loc 0) .nil)) (.lit (.int 3))))) (.cons (.asg (.nm 4) (.idx (.lst (.cons (.bin .add (.lit (.int 1)) (.bin .mod (.call "_law_next" (.cons (.loc 0) .nil)) (.lit (.int 3)))) (.cons (.bin .add (.lit (.int 1)) (.bin .mod (.call "_law_next" (.cons (.loc 0) .nil)) (.lit (.int 100)))) .nil))) (.bin .mod (.call "_law_next" (.cons (.loc 0) .nil)) (.lit (.int 2))))) (.cons (.ret (.tup (.cons (.bin .mod (.call "_law_next" (.cons (.loc 0) .nil)) (.loc 1)) (.cons (.bin .mod (.call "_law_next" (.cons (.loc 0) .nil)) (.lit (.int 2))) (.cons (.bin .mod (.call "_law_next" (.cons (.loc 0) .nil)) (.bin .add (.loc 2) (.lit (.int 1)))) (.cons (.loc 4) (.cons (.bin .mod (.call "_law_next" (.cons (.loc 0) .nil)) (.loc 3)) .nil))))))) .nil)))
def e__law_wish : DE := ⟨d__law_wish, ["_law_deck_here", "_law_works", "_law_days", "_law_ranks", "_law_weight"], ["_law_deck_here", "_law_works", "_law_days"], ⟨3, 5, a__law_wish⟩⟩
abbrev s__law_system : Stmt := top 24
def d__law_system : He.DefD := ⟨("_law_system", none), "_law_system", "_law_system", defArgs s__law_system, defBody s__law_system, defScope s__law_system, [], []⟩
def a__law_system : Sms := (.cons (.asg (.nm 6) (.bin .add (.lit (.int 1)) (.bin .mod (.call "_law_next" (.cons (.loc 0) .nil)) (.loc 1)))) (.cons (.asg (.nm 7) (.idx (.lst (.cons (.lit (.int 100)) (.cons (.lit (.int 6)) (.cons (.lit (.int 3)) .nil)))) (.bin .mod (.call "_law_next" (.cons (.loc 0) .nil)) (.lit (.int 3))))) (.cons (.asg (.nm 8) (.bif .tup (.cons (.comp (.call "_law_rows_of" (.cons (.loc 0) (.cons (.bin .sub (.loc 6) (.lit (.int 1))) (.cons (.loc 7) .nil)))) (.nm 13) (.rng1 (.bin .add (.lit (.int 1)) (.bin .mod (.call "_law_next" (.cons (.loc 0) .nil)) (.loc 2)))) .yes [13]) .nil))) (.cons (.asg (.nm 9) (.bin .mod (.call "_law_next" (.cons (.loc 0) .nil)) (.bin .add (.loc 3) (.lit (.int 1))))) (.cons (.asg (.nm 10) (.idx (.lst (.cons (.bif .min2 (.cons (.loc 4) (.cons (.loc 6) .nil))) (.cons (.loc 4) .nil))) (.bif .int (.cons (.cmp .eq (.bin .mod (.call "_law_next" (.cons (.loc 0) .nil)) (.lit (.int 9))) (.lit (.int 4))) .nil)))) (.cons (.asg (.nm 11) (.bif .tup (.cons (.comp (.call "_law_work" (.cons (.loc 0) (.cons (.loc 14) (.cons (.bif .len (.cons (.loc 8) .nil)) (.cons (.loc 10) .nil))))) (.nm 14) (.rng1 (.loc 9)) .yes [14]) .nil))) (.cons (.asg (.nm 12) (.bin .mul (.bin .mod (.call "_law_next" (.cons (.loc 0) .nil)) (.bin .add (.loc 5) (.lit (.int 1)))) (.bif .int (.cons (.cmp .gt (.loc 9) (.lit (.int 0))) .nil)))) (.cons (.ret (.tup (.cons (.loc 6) (.cons (.loc 8) (.cons (.loc 11) (.cons (.bif .tup (.cons (.comp (.call "_law_wish" (.cons (.loc 0) (.cons (.loc 9) (.cons (.loc 6) .nil)))) (.nm 15) (.rng1 (.loc 12)) .yes [15]) .nil)) .nil)))))) .nil))))))))
def e__law_system : DE := ⟨d__law_system, ["_law_deck_here", "_law_days", "_law_hands", "_law_works", "_law_length", "_law_wishes", "_law_many", "_law_some", "_law_rows", "_law_count", "_law_longest", "_law_works_drawn", "_law_wished", "_law_hand", "_law_work_here", "_law_k"], ["_law_deck_here", "_law_days", "_law_hands", "_law_works", "_law_length", "_law_wishes"], ⟨6, 16, a__law_system⟩⟩
abbrev s__law_ways : Stmt := top 25
def d__law_ways : He.DefD := ⟨("_law_ways", none), "_law_ways", "_law_ways", defArgs s__law_ways, defBody s__law_ways, defScope s__law_ways, [], []⟩
def a__law_ways : Sms := (.cons (.asg (.tp [4, 5, 6]) (.cut (.loc 0) .no (.at (.lit (.int 3))))) (.cons (.asg (.tp [7, 8, 9]) (.idx (.loc 6) (.loc 1))) (.cons (.asg (.nm 2) (.lst .nil)) (.cons (.for_ (.nm 3) (.rng1 (.bin .add (.bin .sub (.loc 4) (.loc 7)) (.lit (.int 1)))) (.cons (.for_ (.nm 10) (.seq (.loc 9)) (.cons (.iff (.val (.cmp .eq (.comp (.loc 11) (.nm 11) (.seq (.idx (.loc 5) (.loc 10))) (.val (.chn .le .lt (.loc 3) (.loc 11) (.bin .add (.loc 3) (.loc 7)))) [11]) (.lst .nil))) (.cons (.ex (.mth .append (.loc 2) (.cons (.tup (.cons (.loc 3) (.cons (.loc 10) .nil))) .nil))) .nil) .nil) .nil) [10]) .nil) [3, 10]) (.cons (.ret (.bif .tup (.cons (.loc 2) .nil))) .nil)))))
def e__law_ways : DE := ⟨d__law_ways, ["_law_system_here", "_law_work_here", "_law_found", "_law_start", "_law_days", "_law_hands", "_law_works", "_law_length", "_law_ahead", "_law_able", "_law_hand", "_law_day"], ["_law_system_here", "_law_work_here"], ⟨2, 12, a__law_ways⟩⟩
abbrev s__law_clash : Stmt := top 26
def d__law_clash : He.DefD := ⟨("_law_clash", none), "_law_clash", "_law_clash", defArgs s__law_clash, defBody s__law_clash, defScope s__law_clash, [], []⟩
def a__law_clash : Sms := (.cons (.asg (.nm 5) (.bin .add (.idx (.loc 2) (.lit (.int 0))) (.idx (.idx (.idx (.loc 0) (.lit (.int 2))) (.loc 1)) (.lit (.int 0))))) (.cons (.asg (.nm 6) (.bin .add (.idx (.loc 4) (.lit (.int 0))) (.idx (.idx (.idx (.loc 0) (.lit (.int 2))) (.loc 3)) (.lit (.int 0))))) (.cons (.iff (.and (.cons (.val (.cmp .eq (.idx (.loc 2) (.lit (.int 1))) (.idx (.loc 4) (.lit (.int 1))))) (.cons (.val (.cmp .lt (.idx (.loc 2) (.lit (.int 0))) (.loc 6))) (.cons (.val (.cmp .lt (.idx (.loc 4) (.lit (.int 0))) (.loc 5))) .nil)))) (.cons (.ret (.lit (.bl true))) .nil) .nil) (.cons (.iff (.and (.cons (.val (.cmp .in_ (.loc 1) (.idx (.idx (.idx (.loc 0) (.lit (.int 2))) (.loc 3)) (.lit (.int 1))))) (.cons (.val (.cmp .lt (.idx (.loc 4) (.lit (.int 0))) (.loc 5))) .nil))) (.cons (.ret (.lit (.bl true))) .nil) .nil) (.cons (.ret (.and (.cons (.cmp .in_ (.loc 3) (.idx (.idx (.idx (.loc 0) (.lit (.int 2))) (.loc 1)) (.lit (.int 1)))) (.cons (.cmp .lt (.idx (.loc 2) (.lit (.int 0))) (.loc 6)) .nil)))) .nil)))))
def e__law_clash : DE := ⟨d__law_clash, ["_law_system_here", "_law_one", "_law_way", "_law_other", "_law_other_way", "_law_end", "_law_other_end"], ["_law_system_here", "_law_one", "_law_way", "_law_other", "_law_other_way"], ⟨5, 7, a__law_clash⟩⟩
abbrev s__law_whole : Stmt := top 27
def d__law_whole : He.DefD := ⟨("_law_whole", none), "_law_whole", "_law_whole", defArgs s__law_whole, defBody s__law_whole, defScope s__law_whole, [], []⟩
def a__law_whole : Sms := (.cons (.ret (.bif .tup (.cons (.comp (.call "_law_ways" (.cons (.loc 0) (.cons (.loc 1) .nil))) (.nm 1) (.rng1 (.bif .len (.cons (.idx (.loc 0) (.lit (.int 2))) .nil))) .yes [1]) .nil))) .nil)
def e__law_whole : DE := ⟨d__law_whole, ["_law_system_here", "_law_work_here"], ["_law_system_here"], ⟨1, 2, a__law_whole⟩⟩
abbrev s__law_stands : Stmt := top 28
def d__law_stands : He.DefD := ⟨("_law_stands", none), "_law_stands", "_law_stands", defArgs s__law_stands, defBody s__law_stands, defScope s__law_stands, [], []⟩
def a__law_stands : Sms := (.cons (.asg (.nm 3) (.idx (.idx (.idx (.loc 0) (.lit (.int 2))) (.loc 2)) (.lit (.int 1)))) (.cons (.ret (.and (.cons (.cmp .nin (.loc 2) (.loc 1)) (.cons (.cmp .eq (.bif .len (.cons (.comp (.loc 4) (.nm 4) (.seq (.loc 3)) (.val (.cmp .in_ (.loc 4) (.loc 1))) [4]) .nil)) (.bif .len (.cons (.loc 3) .nil))) .nil)))) .nil))
def e__law_stands : DE := ⟨d__law_stands, ["_law_system_here", "_law_found", "_law_work_here", "_law_ahead", "_law_one"], ["_law_system_here", "_law_found", "_law_work_here"], ⟨3, 5, a__law_stands⟩⟩
abbrev s__law_order : Stmt := top 29
def d__law_order : He.DefD := ⟨("_law_order", none), "_law_order", "_law_order", defArgs s__law_order, defBody s__law_order, defScope s__law_order, [], []⟩
def a__law_order : Sms := (.cons (.asg (.nm 2) (.lst .nil)) (.cons (.whl (.val (.cmp .lt (.bif .len (.cons (.loc 2) .nil)) (.bif .len (.cons (.idx (.loc 1) (.lit (.int 2))) .nil)))) (.cons (.asg (.nm 3) (.call "_law_next" (.cons (.loc 0) .nil))) (.cons (.asg (.nm 4) (.comp (.loc 5) (.nm 5) (.rng1 (.bif .len (.cons (.idx (.loc 1) (.lit (.int 2))) .nil))) (.val (.call "_law_stands" (.cons (.loc 1) (.cons (.loc 2) (.cons (.loc 5) .nil))))) [5])) (.cons (.ex (.mth .append (.loc 2) (.cons (.idx (.loc 4) (.bin .mod (.loc 3) (.bif .len (.cons (.loc 4) .nil)))) .nil))) .nil))) [3, 4]) (.cons (.ret (.bif .tup (.cons (.loc 2) .nil))) .nil)))
def e__law_order : DE := ⟨d__law_order, ["_law_deck_here", "_law_system_here", "_law_found", "_law_number", "_law_free", "_law_work_here"], ["_law_deck_here", "_law_system_here"], ⟨2, 6, a__law_order⟩⟩
abbrev s__law_fits : Stmt := top 30
def d__law_fits : He.DefD := ⟨("_law_fits", none), "_law_fits", "_law_fits", defArgs s__law_fits, defBody s__law_fits, defScope s__law_fits, [], []⟩
def a__law_fits : Sms := (.cons (.ret (.cmp .eq (.comp (.lit (.int 1)) (.tp [4, 5]) (.seq (.loc 1)) (.val (.call "_law_clash" (.cons (.loc 0) (.cons (.loc 2) (.cons (.loc 3) (.cons (.loc 4) (.cons (.loc 5) .nil))))))) [4, 5]) (.lst .nil))) .nil)
def e__law_fits : DE := ⟨d__law_fits, ["_law_system_here", "_law_given", "_law_work_here", "_law_way", "_law_other", "_law_other_way"], ["_law_system_here", "_law_given", "_law_work_here", "_law_way"], ⟨4, 6, a__law_fits⟩⟩
abbrev s__law_by : Stmt := top 31
def d__law_by : He.DefD := ⟨("_law_by", none), "_law_by", "_law_by", defArgs s__law_by, defBody s__law_by, defScope s__law_by, [], []⟩
def a__law_by : Sms := (.cons (.asg (.nm 3) (.lst .nil)) (.cons (.for_ (.nm 4) (.seq (.loc 2)) (.cons (.asg (.nm 5) (.comp (.loc 6) (.nm 6) (.seq (.idx (.loc 1) (.loc 4))) (.val (.call "_law_fits" (.cons (.loc 0) (.cons (.loc 3) (.cons (.loc 4) (.cons (.loc 6) .nil)))))) [6])) (.cons (.iff (.val (.cmp .eq (.loc 5) (.lst .nil))) (.cons (.ret (.tup (.cons (.lit .non) (.cons (.loc 4) .nil)))) .nil) .nil) (.cons (.ex (.mth .append (.loc 3) (.cons (.tup (.cons (.loc 4) (.cons (.idx (.loc 5) (.lit (.int 0))) .nil))) .nil))) .nil))) [4, 5]) (.cons (.ret (.tup (.cons (.bif .tup (.cons (.comp (.loc 6) (.tp [4, 6]) (.seq (.bif .sorted (.cons (.loc 3) .nil))) .yes [4, 6]) .nil)) (.cons (.lit .non) .nil)))) .nil)))
def e__law_by : DE := ⟨d__law_by, ["_law_system_here", "_law_field", "_law_order_here", "_law_given", "_law_work_here", "_law_some", "_law_way"], ["_law_system_here", "_law_field", "_law_order_here"], ⟨3, 7, a__law_by⟩⟩
abbrev s__law_is_kind : Stmt := top 32
def d__law_is_kind : He.DefD := ⟨("_law_is_kind", none), "_law_is_kind", "_law_is_kind", defArgs s__law_is_kind, defBody s__law_is_kind, defScope s__law_is_kind, [], []⟩
def a__law_is_kind : Sms := (.cons (.iff (.or (.cons (.not (.val (.isi (.loc 0) ["WishError"] false))) (.cons (.not (.val (.isi (.loc 0) ["ValueError"] false))) .nil))) (.cons (.ret (.lit (.bl false))) .nil) .nil) (.cons (.asg (.nm 2) (.lst (.cons (.isi (.loc 0) ["TooMany"] false) (.cons (.isi (.loc 0) ["NoPlan"] false) (.cons (.isi (.loc 0) ["NoRoom"] false) .nil))))) (.cons (.asg (.nm 2) (.bin .add (.loc 2) (.lst (.cons (.isi (.loc 0) ["NotEven"] false) (.cons (.isi (.loc 0) ["NoDeed"] false) (.cons (.isi (.loc 0) ["NoText"] false) .nil)))))) (.cons (.ret (.cmp .eq (.loc 2) (.comp (.cmp .eq (.loc 3) (.loc 1)) (.nm 3) (.rng1 (.lit (.int 6))) .yes [3]))) .nil))))
def e__law_is_kind : DE := ⟨d__law_is_kind, ["_law_error", "_law_at", "_law_kinds", "_law_k"], ["_law_error", "_law_at"], ⟨2, 4, a__law_is_kind⟩⟩
abbrev s__law_refused : Stmt := top 33
def d__law_refused : He.DefD := ⟨("_law_refused", none), "_law_refused", "_law_refused", defArgs s__law_refused, defBody s__law_refused, defScope s__law_refused, [], []⟩
def a__law_refused : Sms := (.cons (.asg (.nm 3) (.lit .non)) (.cons (.tryAs (.cons (.ex (.call "by_order" (.cons (.loc 0) (.cons (.loc 1) (.cons (.loc 2) .nil))))) .nil) "WishError" 4 (.cons (.asg (.nm 3) (.lit (.str "another kind"))) (.cons (.iff (.val (.call "_law_is_kind" (.cons (.loc 4) (.cons (.lit (.int 2)) .nil)))) (.cons (.asg (.nm 3) (.fld (.loc 4) "work")) .nil) .nil) .nil))) (.cons (.ret (.loc 3)) .nil)))
def e__law_refused : DE := ⟨d__law_refused, ["_law_system_here", "_law_field", "_law_order_here", "_law_found", "_law_error"], ["_law_system_here", "_law_field", "_law_order_here"], ⟨3, 5, a__law_refused⟩⟩
abbrev s_law : Stmt := top 34
def d_law : He.DefD := ⟨("law", none), "law", "law", defArgs s_law, defBody s_law, defScope s_law, [], []⟩
def a_law : Sms := (.cons (.asg (.nm 1) (.call "_law_deck" (.cons (.loc 0) .nil))) (.cons (.for_ (.nm 2) (.rng1 (.lit (.int 5))) (.cons (.asg (.nm 3) (.call "_law_system" (.cons (.loc 1) (.cons (.lit (.int 8)) (.cons (.lit (.int 2)) (.cons (.lit (.int 10)) (.cons (.lit (.int 5)) (.cons (.lit (.int 0)) .nil)))))))) (.cons (.asg (.nm 4) (.call "_law_whole" (.cons (.loc 3) .nil))) (.cons (.asg (.nm 5) (.call "_law_next" (.cons (.loc 1) .nil))) (.cons (.iff (.and (.cons (.val (.cmp .eq (.bin .mod (.loc 5) (.lit (.int 3))) (.lit (.int 0)))) (.cons (.val (.cmp .gt (.bif .len (.cons (.loc 4) .nil)) (.lit (.int 0)))) .nil))) (.cons (.asg (.nm 4) (.call "_law_put" (.cons (.loc 4) (.cons (.bin .mod (.bin .div (.loc 5) (.lit (.int 3))) (.bif .len (.cons (.loc 4) .nil))) (.cons (.tup .nil) .nil))))) .nil) .nil) (.cons (.for_ (.nm 6) (.rng1 (.lit (.int 3))) (.cons (.asg (.nm 7) (.call "_law_order" (.cons (.loc 1) (.cons (.loc 3) .nil)))) (.cons (.iff (.not (.val (.call "_law_same" (.cons (.call "_law_refused" (.cons (.loc 3) (.cons (.loc 4) (.cons (.loc 7) .nil)))) (.cons (.idx (.call "_law_by" (.cons (.loc 3) (.cons (.loc 4) (.cons (.loc 7) .nil)))) (.lit (.int 1))) .nil))))) (.cons (.ret (.lit (.bl false))) .nil) .nil) .nil)) [6, 7]) .nil))))) [2, 3, 4, 5, 6]) (.cons (.ret (.lit (.bl true))) .nil)))
def e_law : DE := ⟨d_law, ["_law_script", "_law_deck_here", "_law_turn", "_law_system_here", "_law_field", "_law_spot", "_law_k", "_law_order_here"], ["_law_script"], ⟨1, 8, a_law⟩⟩
abbrev s_NoPlan___init__ : Stmt := inClass (top 3) 0
def d_NoPlan___init__ : He.DefD := ⟨("NoPlan", some "__init__"), "__init__", "NoPlan.__init__", defArgs s_NoPlan___init__, defBody s_NoPlan___init__, defScope s_NoPlan___init__, [], []⟩
abbrev s_NoRoom___init__ : Stmt := inClass (top 4) 0
def d_NoRoom___init__ : He.DefD := ⟨("NoRoom", some "__init__"), "__init__", "NoRoom.__init__", defArgs s_NoRoom___init__, defBody s_NoRoom___init__, defScope s_NoRoom___init__, [], []⟩
abbrev s_NoDeed___init__ : Stmt := inClass (top 6) 0
def d_NoDeed___init__ : He.DefD := ⟨("NoDeed", some "__init__"), "__init__", "NoDeed.__init__", defArgs s_NoDeed___init__, defBody s_NoDeed___init__, defScope s_NoDeed___init__, [], []⟩
def fn : List He.DefD := ([d_end_of, d_is_behind, d_clash, d_goes_with, d_first_way, d_by_order, d__law_deck, d__law_next, d__law_put, d__law_same, d__law_rows_of, d__law_work, d__law_wish, d__law_system, d__law_ways, d__law_clash, d__law_whole, d__law_stands, d__law_order, d__law_fits, d__law_by, d__law_is_kind, d__law_refused, d_law, d_NoPlan___init__, d_NoRoom___init__, d_NoDeed___init__] : List He.DefD)
def fa : List He.Fa := ([.glo "end_of", .glo "is_behind", .glo "clash", .glo "goes_with", .glo "first_way", .glo "by_order", .glo "_law_deck", .glo "_law_next", .glo "_law_put", .glo "_law_same", .glo "_law_rows_of", .glo "_law_work", .glo "_law_wish", .glo "_law_system", .glo "_law_ways", .glo "_law_clash", .glo "_law_whole", .glo "_law_stands", .glo "_law_order", .glo "_law_fits", .glo "_law_by", .glo "_law_is_kind", .glo "_law_refused", .glo "law", .glo "WishError", .glo "TooMany", .glo "NoPlan", .glo "NoRoom", .glo "NotEven", .glo "NoDeed"] : List He.Fa) ++ ([.glo "NoText", .free "ValueError", .free "abs", .free "enumerate", .free "int", .free "isinstance", .free "len", .free "min", .free "range", .free "repr", .free "sorted", .free "tuple"] : List He.Fa)
def subT : List (Str × List Str) := [("WishError", ["WishError", "ValueError"]), ("TooMany", ["TooMany", "WishError", "ValueError"]), ("NoPlan", ["NoPlan", "WishError", "ValueError"]), ("NoRoom", ["NoRoom", "WishError", "ValueError"]), ("NotEven", ["NotEven", "WishError", "ValueError"]), ("NoDeed", ["NoDeed", "WishError", "ValueError"]), ("NoText", ["NoText", "WishError", "ValueError"])]
def flT : List (Str × List Str) := [("NoPlan", ["cases"]), ("NoRoom", ["work"]), ("NoDeed", ["number"])]
def pg : Pg := { cls := ["WishError", "TooMany", "NoPlan", "NoRoom", "NotEven", "NoDeed", "NoText"], flds := fun c => flT.lookup c, con := fun _ => none, sub := fun k c => ((subT.lookup k).getD []).contains c }
def ents : List DE := ([e_end_of, e_is_behind, e_clash, e_goes_with, e_first_way, e_by_order, e__law_deck, e__law_next, e__law_put, e__law_same, e__law_rows_of, e__law_work, e__law_wish, e__law_system, e__law_ways, e__law_clash, e__law_whole, e__law_stands, e__law_order, e__law_fits, e__law_by, e__law_is_kind, e__law_refused, e_law] : List DE)
def fns : List (Str × Nat) := [("end_of", 3), ("is_behind", 5), ("clash", 5), ("goes_with", 4), ("first_way", 4), ("by_order", 3), ("_law_deck", 1), ("_law_next", 1), ("_law_put", 3), ("_law_same", 2), ("_law_rows_of", 3), ("_law_work", 4), ("_law_wish", 3), ("_law_system", 6), ("_law_ways", 2), ("_law_clash", 5), ("_law_whole", 1), ("_law_stands", 3), ("_law_order", 2), ("_law_fits", 4), ("_law_by", 3), ("_law_is_kind", 2), ("_law_refused", 3), ("law", 1)]
def T (f : Str) : Option Df := dfT ents f
def cc : Ck := { N := [], fn := fun f => fns.lookup f, bn := ["ValueError", "abs", "enumerate", "int", "isinstance", "len", "min", "range", "repr", "sorted", "tuple"], cls := ["WishError", "TooMany", "NoPlan", "NoRoom", "NotEven", "NoDeed", "NoText"], flds := ["cases", "work", "number"], rz := ["NoPlan", "NoRoom", "NoDeed"], rn := [], fh := ["_law_is_kind"], hot := false }
theorem k_end_of : EOk fa fn cc T e_end_of := ⟨⟨0, rfl⟩, ⟨0, rfl⟩, rfl, fun _ => ⟨rfl, rfl⟩, C8.fnScope_by (by decide +kernel), rfl, rfl, fun _ _ _ _ _ _ us hl => match us, hl with | [_, _, _], _ => rfl, by decide +kernel, fun h => absurd h (by decide +kernel), by rfl⟩
theorem k_is_behind : EOk fa fn cc T e_is_behind := ⟨⟨1, rfl⟩, ⟨1, rfl⟩, rfl, fun _ => ⟨rfl, rfl⟩, C8.fnScope_by (by decide +kernel), rfl, rfl, fun _ _ _ _ _ _ us hl => match us, hl with | [_, _, _, _, _], _ => rfl, by decide +kernel, fun h => absurd h (by decide +kernel), by rfl⟩
theorem k_clash : EOk fa fn cc T e_clash := ⟨⟨2, rfl⟩, ⟨2, rfl⟩, rfl, fun _ => ⟨rfl, rfl⟩, C8.fnScope_by (by decide +kernel), rfl, rfl, fun _ _ _ _ _ _ us hl => match us, hl with | [_, _, _, _, _], _ => rfl, by decide +kernel, fun h => absurd h (by decide +kernel), by rfl⟩
theorem k_goes_with : EOk fa fn cc T e_goes_with := ⟨⟨3, rfl⟩, ⟨3, rfl⟩, rfl, fun _ => ⟨rfl, rfl⟩, C8.fnScope_by (by decide +kernel), rfl, rfl, fun _ _ _ _ _ _ us hl => match us, hl with | [_, _, _, _], _ => rfl, by decide +kernel, fun h => absurd h (by decide +kernel), by rfl⟩
theorem k_first_way : EOk fa fn cc T e_first_way := ⟨⟨4, rfl⟩, ⟨4, rfl⟩, rfl, fun _ => ⟨rfl, rfl⟩, C8.fnScope_by (by decide +kernel), rfl, rfl, fun _ _ _ _ _ _ us hl => match us, hl with | [_, _, _, _], _ => rfl, by decide +kernel, fun h => absurd h (by decide +kernel), by rfl⟩
theorem k_by_order : EOk fa fn cc T e_by_order := ⟨⟨5, rfl⟩, ⟨5, rfl⟩, rfl, fun _ => ⟨rfl, rfl⟩, C8.fnScope_by (by decide +kernel), rfl, rfl, fun _ _ _ _ _ _ us hl => match us, hl with | [_, _, _], _ => rfl, by decide +kernel, fun h => absurd h (by decide +kernel), by rfl⟩
theorem k__law_deck : EOk fa fn cc T e__law_deck := ⟨⟨6, rfl⟩, ⟨6, rfl⟩, rfl, fun _ => ⟨rfl, rfl⟩, C8.fnScope_by (by decide +kernel), rfl, rfl, fun _ _ _ _ _ _ us hl => match us, hl with | [_], _ => rfl, by decide +kernel, fun h => absurd h (by decide +kernel), by rfl⟩
theorem k__law_next : EOk fa fn cc T e__law_next := ⟨⟨7, rfl⟩, ⟨7, rfl⟩, rfl, fun _ => ⟨rfl, rfl⟩, C8.fnScope_by (by decide +kernel), rfl, rfl, fun _ _ _ _ _ _ us hl => match us, hl with | [_], _ => rfl, by decide +kernel, fun h => absurd h (by decide +kernel), by rfl⟩
theorem k__law_put : EOk fa fn cc T e__law_put := ⟨⟨8, rfl⟩, ⟨8, rfl⟩, rfl, fun _ => ⟨rfl, rfl⟩, C8.fnScope_by (by decide +kernel), rfl, rfl, fun _ _ _ _ _ _ us hl => match us, hl with | [_, _, _], _ => rfl, by decide +kernel, fun h => absurd h (by decide +kernel), by rfl⟩
theorem k__law_same : EOk fa fn cc T e__law_same := ⟨⟨9, rfl⟩, ⟨9, rfl⟩, rfl, fun _ => ⟨rfl, rfl⟩, C8.fnScope_by (by decide +kernel), rfl, rfl, fun _ _ _ _ _ _ us hl => match us, hl with | [_, _], _ => rfl, by decide +kernel, fun h => absurd h (by decide +kernel), by rfl⟩
theorem k__law_rows_of : EOk fa fn cc T e__law_rows_of := ⟨⟨10, rfl⟩, ⟨10, rfl⟩, rfl, fun _ => ⟨rfl, rfl⟩, C8.fnScope_by (by decide +kernel), rfl, rfl, fun _ _ _ _ _ _ us hl => match us, hl with | [_, _, _], _ => rfl, by decide +kernel, fun h => absurd h (by decide +kernel), by rfl⟩
theorem k__law_work : EOk fa fn cc T e__law_work := ⟨⟨11, rfl⟩, ⟨11, rfl⟩, rfl, fun _ => ⟨rfl, rfl⟩, C8.fnScope_by (by decide +kernel), rfl, rfl, fun _ _ _ _ _ _ us hl => match us, hl with | [_, _, _, _], _ => rfl, by decide +kernel, fun h => absurd h (by decide +kernel), by rfl⟩
theorem k__law_wish : EOk fa fn cc T e__law_wish := ⟨⟨12, rfl⟩, ⟨12, rfl⟩, rfl, fun _ => ⟨rfl, rfl⟩, C8.fnScope_by (by decide +kernel), rfl, rfl, fun _ _ _ _ _ _ us hl => match us, hl with | [_, _, _], _ => rfl, by decide +kernel, fun h => absurd h (by decide +kernel), by rfl⟩
theorem k__law_system : EOk fa fn cc T e__law_system := ⟨⟨13, rfl⟩, ⟨13, rfl⟩, rfl, fun _ => ⟨rfl, rfl⟩, C8.fnScope_by (by decide +kernel), rfl, rfl, fun _ _ _ _ _ _ us hl => match us, hl with | [_, _, _, _, _, _], _ => rfl, by decide +kernel, fun h => absurd h (by decide +kernel), by rfl⟩
theorem k__law_ways : EOk fa fn cc T e__law_ways := ⟨⟨14, rfl⟩, ⟨14, rfl⟩, rfl, fun _ => ⟨rfl, rfl⟩, C8.fnScope_by (by decide +kernel), rfl, rfl, fun _ _ _ _ _ _ us hl => match us, hl with | [_, _], _ => rfl, by decide +kernel, fun h => absurd h (by decide +kernel), by rfl⟩
theorem k__law_clash : EOk fa fn cc T e__law_clash := ⟨⟨15, rfl⟩, ⟨15, rfl⟩, rfl, fun _ => ⟨rfl, rfl⟩, C8.fnScope_by (by decide +kernel), rfl, rfl, fun _ _ _ _ _ _ us hl => match us, hl with | [_, _, _, _, _], _ => rfl, by decide +kernel, fun h => absurd h (by decide +kernel), by rfl⟩
theorem k__law_whole : EOk fa fn cc T e__law_whole := ⟨⟨16, rfl⟩, ⟨16, rfl⟩, rfl, fun _ => ⟨rfl, rfl⟩, C8.fnScope_by (by decide +kernel), rfl, rfl, fun _ _ _ _ _ _ us hl => match us, hl with | [_], _ => rfl, by decide +kernel, fun h => absurd h (by decide +kernel), by rfl⟩
theorem k__law_stands : EOk fa fn cc T e__law_stands := ⟨⟨17, rfl⟩, ⟨17, rfl⟩, rfl, fun _ => ⟨rfl, rfl⟩, C8.fnScope_by (by decide +kernel), rfl, rfl, fun _ _ _ _ _ _ us hl => match us, hl with | [_, _, _], _ => rfl, by decide +kernel, fun h => absurd h (by decide +kernel), by rfl⟩
theorem k__law_order : EOk fa fn cc T e__law_order := ⟨⟨18, rfl⟩, ⟨18, rfl⟩, rfl, fun _ => ⟨rfl, rfl⟩, C8.fnScope_by (by decide +kernel), rfl, rfl, fun _ _ _ _ _ _ us hl => match us, hl with | [_, _], _ => rfl, by decide +kernel, fun h => absurd h (by decide +kernel), by rfl⟩
theorem k__law_fits : EOk fa fn cc T e__law_fits := ⟨⟨19, rfl⟩, ⟨19, rfl⟩, rfl, fun _ => ⟨rfl, rfl⟩, C8.fnScope_by (by decide +kernel), rfl, rfl, fun _ _ _ _ _ _ us hl => match us, hl with | [_, _, _, _], _ => rfl, by decide +kernel, fun h => absurd h (by decide +kernel), by rfl⟩
theorem k__law_by : EOk fa fn cc T e__law_by := ⟨⟨20, rfl⟩, ⟨20, rfl⟩, rfl, fun _ => ⟨rfl, rfl⟩, C8.fnScope_by (by decide +kernel), rfl, rfl, fun _ _ _ _ _ _ us hl => match us, hl with | [_, _, _], _ => rfl, by decide +kernel, fun h => absurd h (by decide +kernel), by rfl⟩
theorem k__law_is_kind : EOk fa fn cc T e__law_is_kind := ⟨⟨21, rfl⟩, ⟨21, rfl⟩, rfl, fun _ => ⟨rfl, rfl⟩, C8.fnScope_by (by decide +kernel), rfl, rfl, fun _ _ _ _ _ _ us hl => match us, hl with | [_, _], _ => rfl, by decide +kernel, fun _ => by decide +kernel, by rfl⟩
theorem k__law_refused : EOk fa fn cc T e__law_refused := ⟨⟨22, rfl⟩, ⟨22, rfl⟩, rfl, fun _ => ⟨rfl, rfl⟩, C8.fnScope_by (by decide +kernel), rfl, rfl, fun _ _ _ _ _ _ us hl => match us, hl with | [_, _, _], _ => rfl, by decide +kernel, fun h => absurd h (by decide +kernel), by rfl⟩
theorem k_law : EOk fa fn cc T e_law := ⟨⟨23, rfl⟩, ⟨23, rfl⟩, rfl, fun _ => ⟨rfl, rfl⟩, C8.fnScope_by (by decide +kernel), rfl, rfl, fun _ _ _ _ _ _ us hl => match us, hl with | [_], _ => rfl, by decide +kernel, fun h => absurd h (by decide +kernel), by rfl⟩
theorem k_all : ∀ e ∈ ents, EOk fa fn cc T e := all_cons k_end_of (all_cons k_is_behind (all_cons k_clash (all_cons k_goes_with (all_cons k_first_way (all_cons k_by_order (all_cons k__law_deck (all_cons k__law_next (all_cons k__law_put (all_cons k__law_same (all_cons k__law_rows_of (all_cons k__law_work (all_cons k__law_wish (all_cons k__law_system (all_cons k__law_ways (all_cons k__law_clash (all_cons k__law_whole (all_cons k__law_stands (all_cons k__law_order (all_cons k__law_fits (all_cons k__law_by (all_cons k__law_is_kind (all_cons k__law_refused (all_cons k_law (all_nil))))))))))))))))))))))))
theorem i_NoPlan : IOk fn pg cc "NoPlan" := ⟨⟨24, d_NoPlan___init__, "cases", "cases", _, _, _, _, rfl, rfl, fun _ => ⟨rfl, rfl⟩, rfl, C8.fnScope_by (by decide +kernel), by decide +kernel, by decide +kernel, rfl, by decide +kernel, by decide +kernel, fun _ _ _ _ _ _ us hl => match us, hl with | [_, _], _ => rfl⟩⟩
theorem i_NoRoom : IOk fn pg cc "NoRoom" := ⟨⟨25, d_NoRoom___init__, "work", "work", _, _, _, _, rfl, rfl, fun _ => ⟨rfl, rfl⟩, rfl, C8.fnScope_by (by decide +kernel), by decide +kernel, by decide +kernel, rfl, by decide +kernel, by decide +kernel, fun _ _ _ _ _ _ us hl => match us, hl with | [_, _], _ => rfl⟩⟩
theorem i_NoDeed : IOk fn pg cc "NoDeed" := ⟨⟨26, d_NoDeed___init__, "number", "number", _, _, _, _, rfl, rfl, fun _ => ⟨rfl, rfl⟩, rfl, C8.fnScope_by (by decide +kernel), by decide +kernel, by decide +kernel, rfl, by decide +kernel, by decide +kernel, fun _ _ _ _ _ _ us hl => match us, hl with | [_, _], _ => rfl⟩⟩
theorem i_all : ∀ x ∈ cc.rz, IOk fn pg cc x := all_cons i_NoPlan (all_cons i_NoRoom (all_cons i_NoDeed (all_nil)))
abbrev chk (K : PySem.W.Frag) : Bool := excB pg cc K
abbrev R : PySem.W.OpenRow := PySem.W.OpenLaw.row PySem.Challenge.rw_workwishes_k36_no_room
abbrev hk : PySem.W.Hook := hookW 5 fa fn chk
def ob (s : PySem.W.SharedT) : AlW := obsWG 5 fa fn chk (HandSHeadRun.getT s)
theorem ob_eq (s : PySem.W.SharedT) : ob s = hk.obs s.abs := obsWG_eq (HandSHeadRun.getT_eq s)
def names : List PySem.Str := (["__name__", "WishError", "TooMany", "NoPlan", "NoRoom", "NotEven", "NoDeed", "NoText", "end_of", "is_behind", "clash", "goes_with", "first_way", "by_order", "_law_deck", "_law_next", "_law_put", "_law_same", "_law_rows_of", "_law_work", "_law_wish", "_law_system", "_law_ways", "_law_clash", "_law_whole", "_law_stands", "_law_order", "_law_fits", "_law_by", "_law_is_kind"] : List PySem.Str) ++ (["_law_refused"] : List PySem.Str)
theorem run (w : World) : HandSHeadRun.RunEq R (PySem.W.view R.prog [34]) hk ob 4000 names w := by
  intro os
  kernel_rfl
theorem room : RoomG (220 + 3) callerA := ⟨by decide +kernel, by decide +kernel, rfl⟩
theorem facts {w : World} {K : PySem.W.Frag} {h : Heap} {mg : Str → Option Value} {f : Addr} (X : K.In h) (G : h.Ns mainGlobals mg) (hf : mg ("law" : Str) = some (.ref f)) (c1 : chk K = true) (c2 : He.SaysD fa fn K) :
    ∃ (K : PySem.W.Frag) (fd : FuncData) (cl : Cl), K.In h ∧ (∀ (s : Shared) (u : Value), BindsTo s fd ⟨[u], []⟩ [("_law_script", u)]) ∧ ∀ base : Heap, K.In base → base.Ns mainGlobals mg → FnG (PySem.Challenge.rw_workwishes_k36_no_room).prog w K mg base cl 220 f fd ["_law_script"] (spG K cl pg.cls 1 (cc.fh.contains "law") (callF pg T 220 "law")) := by
  have e : f = (drOf K e_law).fa := by
    have := fAd_ok X G c2 k_law
    rw [show e_law.dd.name = ("law" : Str) from rfl, hf] at this
    cases this
    rfl
  subst e
  refine ⟨K, (drOf K e_law).fd, He.ga K, X, fun s u => ?_, fun base X2 G2 => ?_⟩
  · exact FunD.bindsA (ps := ["_law_script"]) (fdOf_ok c2 k_law) (fun _ _ _ _ _ _ us hl => match us, hl with | [_], _ => rfl) s [u] rfl
  · have M : Mo pg (He.ga K) cc (dfT ents) (ents.map (drOf K)) (PySem.Challenge.rw_workwishes_k36_no_room).prog w K mg base := mo_of X2 G2 c2 c1 k_all i_all (fun f => rfl) (fun c h => by rcases h with rfl | rfl | rfl | rfl <;> decide +kernel) (by
      show ∀ b ∈ cc.bn, ∃ i : Nat, fa[i]? = some (.free b)
      exact all_cons ⟨31, rfl⟩ (all_cons ⟨32, rfl⟩ (all_cons ⟨33, rfl⟩ (all_cons ⟨34, rfl⟩ (all_cons ⟨35, rfl⟩ (all_cons ⟨36, rfl⟩ (all_cons ⟨37, rfl⟩ (all_cons ⟨38, rfl⟩ (all_cons ⟨39, rfl⟩ (all_cons ⟨40, rfl⟩ (all_cons ⟨41, rfl⟩ (all_nil)))))))))))) rfl (by
      show ∀ b ∈ pg.cls, ∃ i : Nat, fa[i]? = some (.glo b)
      exact all_cons ⟨24, rfl⟩ (all_cons ⟨25, rfl⟩ (all_cons ⟨26, rfl⟩ (all_cons ⟨27, rfl⟩ (all_cons ⟨28, rfl⟩ (all_cons ⟨29, rfl⟩ (all_cons ⟨30, rfl⟩ (all_nil)))))))) rfl fun _ _ h => by cases h
    exact M.all 220 (drOf K e_law) (List.mem_map.mpr ⟨e_law, by simp [ents], rfl⟩)
end KT
open PySem PySem.W PySem.Calls PyProof.Rows
theorem KT.hold (hlaw : ∀ ns : List Int, ns.length ≤ 63 → ∃ Sf, WL.callF KT.pg KT.T 220 "law" [.ref 0] [.rls (ns.map .int)] = .ok (.bl true) Sf) : PySem.Challenge.rw_workwishes_k36_no_room.Holds := by
  w_on; o_law
  refine HandSHeadRun.head_any (r := OpenLaw.row PySem.Challenge.rw_workwishes_k36_no_room) (q := view (OpenLaw.row PySem.Challenge.rw_workwishes_k36_no_room).prog [34]) (H := KT.hk) (ob := KT.ob) (M := 4000) (loose := KT.names) (d := HandSHeadRun.topDef (OpenLaw.row PySem.Challenge.rw_workwishes_k36_no_room).prog 34) (kwd := []) KT.ob_eq
    (by kernel_rfl) (fun s => by kernel_rfl) KT.run (by kernel_rfl) (by kernel_rfl) (by kernel_rfl) (by rfl) (by first | assumption | decide +kernel) (by decide +kernel) ⟨rfl, rfl, rfl, rfl, rfl, by decide +kernel⟩ ?hw ?hc
  case hw => w_witness2
  case hc =>
    refine WL.walk_W (l := PySem.Challenge.rw_workwishes_k36_no_room) (n := 63) (k := 220) (x := "_law_script") (hot := KT.cc.fh.contains "law") (pg := KT.pg) (call := WL.callF KT.pg KT.T 220 "law") rfl (by decide) (by kernel_rfl) KT.room hlaw ?F
    intro w mg fa h Y G hmg0
    obtain ⟨K, KX, c1, c2⟩ := Y
    have hmg : mg ("law" : PySem.Str) = some (.ref fa) := by
      have e : (HandSHeadRun.topDef (OpenLaw.row PySem.Challenge.rw_workwishes_k36_no_room).prog 34).name = ("law" : PySem.Str) := by kernel_rfl
      rw [← e]
      exact hmg0
    exact KT.facts KX G hmg c1 c2

end
section
set_option Elab.async false
set_option linter.all false
set_option maxRecDepth 100000
set_option maxHeartbeats 1000000
namespace K36
open PySem WL KT
structure Wo where
  len : Int
  ahead : List Int
  able : List Int
def Wo.d (w : Wo) : D := .tup [.int w.len, .tup (w.ahead.map .int), .tup (w.able.map .int)]
def sysD (days : Int) (hands : List (List Int)) (works : List Wo) (wishes : D) : D := .tup [.int days, .tup (hands.map fun r => .tup (r.map .int)), .tup (works.map Wo.d), wishes]
def wayD (w : Int × Int) : D := .tup [.int w.1, .int w.2]
theorem T_end_of : T "end_of" = some ⟨3, 3, a_end_of⟩ := by rfl
theorem T_is_behind : T "is_behind" = some ⟨5, 5, a_is_behind⟩ := by rfl
theorem T_clash : T "clash" = some ⟨5, 5, a_clash⟩ := by rfl
theorem T_goes_with : T "goes_with" = some ⟨4, 6, a_goes_with⟩ := by rfl
theorem T_first_way : T "first_way" = some ⟨4, 5, a_first_way⟩ := by rfl
theorem T__law_clash : T "_law_clash" = some ⟨5, 7, a__law_clash⟩ := by rfl
variable {days : Int} {hands : List (List Int)} {works : List Wo} {wishes : D}
theorem work_at {w : Nat} {wo : Wo} (hw : works[w]? = some wo) : L2.atI (works.map Wo.d) (w : Int) = some wo.d := atI_nn (by omega) (by simp [hw])
@[simp] theorem sys_0 (S : Sto) : idxD S (sysD days hands works wishes) (.int 0) = some (.int days) := by simp [sysD]
@[simp] theorem sys_1 (S : Sto) : idxD S (sysD days hands works wishes) (.int 1) = some (.tup (hands.map fun r => .tup (r.map .int))) := by simp [sysD]
@[simp] theorem sys_2 (S : Sto) : idxD S (sysD days hands works wishes) (.int 2) = some (.tup (works.map Wo.d)) := by simp [sysD]
@[simp] theorem wo_0 (S : Sto) (w : Wo) : idxD S w.d (.int 0) = some (.int w.len) := by simp [Wo.d]
@[simp] theorem wo_1 (S : Sto) (w : Wo) : idxD S w.d (.int 1) = some (.tup (w.ahead.map .int)) := by simp [Wo.d]
@[simp] theorem way_0 (S : Sto) (w : Int × Int) : idxD S (wayD w) (.int 0) = some (.int w.1) := by simp [wayD]
@[simp] theorem way_1 (S : Sto) (w : Int × Int) : idxD S (wayD w) (.int 1) = some (.int w.2) := by simp [wayD]
theorem end_of_ok (k : Nat) {w : Nat} {wo : Wo} (hw : works[w]? = some wo) (way : Int × Int) (S : Sto) :
    callF pg T (k + 1) "end_of" [sysD days hands works wishes, .int w, wayD way] S = .ok (.int (way.1 + wo.len)) S := by
  rw [callF, T_end_of]
  simp [a_end_of, WL.start, work_at hw, gc_self]
def behind (one : Nat) (a : Wo) (wa : Int × Int) (b : Wo) (wb : Int × Int) : Bool := b.ahead.contains (one : Int) && decide (wb.1 < wa.1 + a.len)
theorem is_behind_ok (k : Nat) {i j : Nat} {a b : Wo} (hi : works[i]? = some a) (hj : works[j]? = some b) (wa wb : Int × Int) (S : Sto) :
    callF pg T (k + 2) "is_behind" [sysD days hands works wishes, .int i, wayD wa, .int j, wayD wb] S = .ok (.bl (behind i a wa b wb)) S := by
  have h1 := fun S => end_of_ok (days := days) (hands := hands) (wishes := wishes) k hi wa S
  rw [callF, T_is_behind]
  unfold behind
  cases hm : b.ahead.contains (i : Int) <;> simp [a_is_behind, WL.start, h1, gc_self, work_at hj, hm, -List.contains_eq_mem]
def clashB (i : Nat) (a : Wo) (wa : Int × Int) (j : Nat) (b : Wo) (wb : Int × Int) : Bool :=
  (decide (wa.2 = wb.2) && (decide (wa.1 < wb.1 + b.len) && decide (wb.1 < wa.1 + a.len))) || (behind i a wa b wb || behind j b wb a wa)
theorem clash_ok (k : Nat) {i j : Nat} {a b : Wo} (hi : works[i]? = some a) (hj : works[j]? = some b) (wa wb : Int × Int) (S : Sto) :
    callF pg T (k + 3) "clash" [sysD days hands works wishes, .int i, wayD wa, .int j, wayD wb] S = .ok (.bl (clashB i a wa j b wb)) S := by
  have h1 := fun S => end_of_ok (days := days) (hands := hands) (wishes := wishes) (k + 1) hi wa S
  have h2 := fun S => end_of_ok (days := days) (hands := hands) (wishes := wishes) (k + 1) hj wb S
  have h3 := fun S => is_behind_ok (days := days) (hands := hands) (wishes := wishes) k hi hj wa wb S
  have h4 := fun S => is_behind_ok (days := days) (hands := hands) (wishes := wishes) k hj hi wb wa S
  rw [callF, T_clash]
  unfold clashB
  by_cases c1 : wa.2 = wb.2
  · by_cases c2 : wa.1 < wb.1 + b.len
    · by_cases c3 : wb.1 < wa.1 + a.len
      · simp [a_clash, WL.start, h1, h2, h3, h4, gc_self, c1, c2, c3]
      · cases c4 : behind i a wa b wb <;> simp [a_clash, WL.start, h1, h2, h3, h4, gc_self, c1, c2, c3, c4]
    · cases c4 : behind i a wa b wb <;> simp [a_clash, WL.start, h1, h2, h3, h4, gc_self, c1, c2, c4]
  · cases c4 : behind i a wa b wb <;> simp [a_clash, WL.start, h1, h2, h3, h4, gc_self, c1, c4]
theorem law_clash_ok (k : Nat) {i j : Nat} {a b : Wo} (hi : works[i]? = some a) (hj : works[j]? = some b) (wa wb : Int × Int) (S : Sto) :
    callF pg T (k + 1) "_law_clash" [sysD days hands works wishes, .int i, wayD wa, .int j, wayD wb] S = .ok (.bl (clashB i a wa j b wb)) S := by
  rw [callF, T__law_clash]
  unfold clashB behind
  cases m1 : b.ahead.contains (i : Int) <;> cases m2 : a.ahead.contains (j : Int) <;> by_cases c1 : wa.2 = wb.2 <;> by_cases c2 : wa.1 < wb.1 + b.len <;> by_cases c3 : wb.1 < wa.1 + a.len <;>
    simp [a__law_clash, WL.start, gc_self, work_at hi, work_at hj, putT, putN, c1, c2, c3, m1, m2, -List.contains_eq_mem]
end K36
end
section
set_option Elab.async false
set_option linter.all false
set_option maxRecDepth 100000
set_option maxHeartbeats 1000000
namespace K36
open PySem WL KT
variable {days : Int} {hands : List (List Int)} {works : List Wo} {wishes : D}
def optD : Option (Int × Int) → D
  | none => .non
  | some w => wayD w
abbrev Giv := List (Option (Int × Int))
def hit (works : List Wo) (i : Nat) (wa : Int × Int) (p : Option (Int × Int) × Nat) : Bool := match p.1, works[i]?, works[p.2]? with
  | some wb, some a, some b => clashB i a wa p.2 b wb
  | _, _, _ => false
def goesB (works : List Wo) (given : Giv) (i : Nat) (wa : Int × Int) : Bool := (given.zipIdx.find? (hit works i wa)).isNone
theorem wayD_ne (S : Sto) (w : Int × Int) : cmpD .isn (wayD w) .non S = some true := rfl
theorem goes_with_ok (k : Nat) {i : Nat} (hi : i < works.length) (wa : Int × Int) {given : Giv} (hg : given.length ≤ works.length) {S : Sto} {l : Nat} (hl : S[l]? = some (.lst (given.map optD))) :
    callF pg T (k + 4) "goes_with" [sysD days hands works wishes, .ref l, .int i, wayD wa] S = .ok (.bl (goesB works given i wa)) S := by
  have ea : works[i]? = some works[i] := List.getElem?_eq_getElem hi
  rw [callF, T_goes_with]
  have key := forL_find (hold := Wk.held ⟨(given.map optD).mapIdx fun (i : Nat) x => .tup [.int i, x], [(l, given.map optD)]⟩) (kl := [4, 5]) (ρ := WL.start 6 [sysD days hands works wishes, .ref l, .int i, wayD wa]) (S := S) (xs := given.zipIdx)
    (step := forT pg (callF pg T (k + 3)) (.tp [4, 5]) (.cons (.iff (.and (.cons (.val (.cmp .isn (.loc 5) (.lit .non))) (.cons (.val (.call "clash" (.cons (.loc 0) (.cons (.loc 2) (.cons (.loc 3) (.cons (.loc 4) (.cons (.loc 5) .nil))))))) .nil))) (.cons (.ret (.lit (.bl false))) .nil) .nil) .nil))
    (fun p => .tup [.int p.2, optD p.1]) (hit works i wa) (fun _ => .bl false) (by intro p hp; simp at hp; subst hp; exact .inl hl) ?_ ?_
  · obtain ⟨k1, k2⟩ := key
    have ev : a_goes_with = .cons (.for_ (.tp [4, 5]) (.enum (.loc 1)) (.cons (.iff (.and (.cons (.val (.cmp .isn (.loc 5) (.lit .non))) (.cons (.val (.call "clash" (.cons (.loc 0) (.cons (.loc 2) (.cons (.loc 3) (.cons (.loc 4) (.cons (.loc 5) .nil))))))) .nil))) (.cons (.ret (.lit (.bl false))) .nil) .nil) .nil) [4, 5]) (.cons (.ret (.lit (.bl true))) .nil) := rfl
    have hw : evI pg (callF pg T (k + 3)) (.enum (.loc 1)) (WL.start 6 [sysD days hands works wishes, .ref l, .int i, wayD wa]) S = .ok ⟨(given.map optD).mapIdx fun (i : Nat) x => .tup [.int i, x], [(l, given.map optD)]⟩ S := by
      simp [WL.start, wkLst_old hl]
    unfold goesB
    rw [ev]
    simp only [evSs_cons, evS_for, hw, st_ok, mapIdx_zip] at k1 k2 ⊢
    cases hf : given.zipIdx.find? (hit works i wa) with
    | some p =>
      obtain ⟨ρ', e⟩ := k1 p hf
      rw [e]
      simp [gc_self]
    | none =>
      rw [k2 hf]
      simp [gc_self]
  · intro p hp hq
    unfold hit at hq
    split at hq
    · rename_i wb a b e1 e2 e3
      simp [forT, putT, putNs, putN, WL.start, e1, optD, -cmp_notN, wayD_ne, clash_ok k e2 e3, hq, gc_self]
    · cases hq
  · intro p hp hq
    obtain ⟨g, j⟩ := p
    have hj := List.mem_zipIdx hp
    simp at hj
    cases g with
    | none =>
      simp [forT, putT, putNs, putN, WL.start, optD, gc_self, kill]
    | some wb =>
      have ej : works[j]? = some works[j] := List.getElem?_eq_getElem (by omega)
      have hq' : clashB i works[i] wa j works[j] wb = false := by
        have := hq
        unfold hit at this
        simp only [ea, ej] at this
        exact this
      simp [forT, putT, putNs, putN, WL.start, optD, -cmp_notN, wayD_ne, clash_ok k ea ej, hq', gc_self, kill]
end K36
end
section
set_option Elab.async false
set_option linter.all false
set_option maxRecDepth 100000
set_option maxHeartbeats 1000000
namespace K36
open PySem WL KT
theorem T_by_order : T "by_order" = some ⟨3, 6, a_by_order⟩ := by rfl
variable {days : Int} {hands : List (List Int)} {works : List Wo} {wishes : D}
def rowD (r : List (Int × Int)) : D := .tup (r.map wayD)
def fieldD (rows : List (List (Int × Int))) : D := .tup (rows.map rowD)
theorem wayD_isn (S : Sto) (w : Int × Int) : cmpD .is_ (wayD w) .non S = some false := rfl
theorem first_way_ok (k : Nat) {i : Nat} (hi : i < works.length) (row : List (Int × Int)) {given : Giv} (hg : given.length ≤ works.length) {S : Sto} {l : Nat} (hl : S[l]? = some (.lst (given.map optD))) :
    callF pg T (k + 5) "first_way" [sysD days hands works wishes, .ref l, .int i, rowD row] S = .ok (optD (row.find? (goesB works given i))) S := by
  have h1 := fun wa => goes_with_ok (days := days) (hands := hands) (wishes := wishes) k hi wa hg hl
  rw [callF, T_first_way]
  have ev : a_first_way = .cons (.for_ (.nm 4) (.seq (.loc 3)) (.cons (.iff (.val (.call "goes_with" (.cons (.loc 0) (.cons (.loc 1) (.cons (.loc 2) (.cons (.loc 4) .nil)))))) (.cons (.ret (.loc 4)) .nil) .nil) .nil) [4]) (.cons (.ret (.lit .non)) .nil) := rfl
  obtain ⟨k1, k2⟩ := forL_find (hold := Wk.held ⟨row.map wayD, []⟩) (kl := [4]) (ρ := WL.start 5 [sysD days hands works wishes, .ref l, .int i, rowD row]) (S := S) (xs := row)
    (step := forT pg (callF pg T (k + 4)) (.nm 4) (.cons (.iff (.val (.call "goes_with" (.cons (.loc 0) (.cons (.loc 1) (.cons (.loc 2) (.cons (.loc 4) .nil)))))) (.cons (.ret (.loc 4)) .nil) .nil) .nil))
    wayD (goesB works given i) wayD (by simp) (fun wa _ hq => by simp [forT, putT, putN, WL.start, h1, hq, gc_self]) (fun wa _ hq => by simp [forT, putT, putN, WL.start, h1, hq, gc_self, kill])
  have hw : evI pg (callF pg T (k + 4)) (.seq (.loc 3)) (WL.start 5 [sysD days hands works wishes, .ref l, .int i, rowD row]) S = .ok ⟨row.map wayD, []⟩ S := by
    simp [WL.start, rowD]
  rw [ev]
  simp only [evSs_cons, evS_for, hw, st_ok]
  cases hf : row.find? (goesB works given i) with
  | some wa =>
    obtain ⟨ρ', e⟩ := k1 wa hf
    rw [e]
    simp [gc_self, optD]
  | none =>
    rw [k2 hf]
    simp [gc_self, optD]
def rowAt (rows : List (List (Int × Int))) (w : Nat) : List (Int × Int) := rows.getD w []
inductive Out where
  | no (w : Nat)
  | all (g : Giv)
def runO (works : List Wo) (rows : List (List (Int × Int))) : List Nat → Giv → Out
  | [], g => .all g
  | w :: ws, g => match (rowAt rows w).find? (goesB works g w) with
    | none => .no w
    | some way => runO works rows ws (g.set w (some way))
def bodyO : Sms := .cons (.asg (.nm 5) (.call "first_way" (.cons (.loc 0) (.cons (.loc 3) (.cons (.loc 4) (.cons (.idx (.loc 1) (.loc 4)) .nil)))))) (.cons (.iff (.val (.cmp .is_ (.loc 5) (.lit .non))) (.cons (.raise "NoRoom" (.cons (.loc 4) .nil)) .nil) .nil) (.cons (.asgI (.loc 3) (.loc 4) (.loc 5)) .nil))
theorem flds_NoRoom : pg.flds "NoRoom" = some [("work" : Str)] := by rfl
abbrev roO (days : Int) (hands : List (List Int)) (works : List Wo) (wishes : D) (rows : List (List (Int × Int))) (ordD : D) (S0 : Sto) (a b : Option D) : Ro := [some (sysD days hands works wishes), some (fieldD rows), some ordD, some (.ref (S0.length + 1)), a, b]
theorem loopO (k : Nat) (rows : List (List (Int × Int))) (ordD : D) (S0 : Sto) (x : O) {hold : Sto → Prop} (hh : ∀ S, hold S) : ∀ (ws : List Nat) (g : Giv), (∀ w ∈ ws, w < works.length ∧ w < rows.length ∧ w < g.length) → g.length ≤ works.length →
    (∀ w, runO works rows ws g = .no w → ∃ (ρ' : Ro) (g' : Giv), forL hold [4, 5] (forT pg (callF pg T (k + 5)) (.nm 4) bodyO) (ws.map fun (n : Nat) => D.int n) (roO days hands works wishes rows ordD S0 none none) (S0 ++ [x, .lst (g.map optD)]) = .exc "NoRoom" [("work", .int w)] ρ' (S0 ++ [x, .lst (g'.map optD)])) ∧
    (∀ g' : Giv, runO works rows ws g = .all g' → forL hold [4, 5] (forT pg (callF pg T (k + 5)) (.nm 4) bodyO) (ws.map fun (n : Nat) => D.int n) (roO days hands works wishes rows ordD S0 none none) (S0 ++ [x, .lst (g.map optD)]) = .ok .nx (roO days hands works wishes rows ordD S0 none none) (S0 ++ [x, .lst (g'.map optD)])) := by
  intro ws
  induction ws with
  | nil =>
    intro g _ _
    simp only [runO, List.map_nil, forL]
    rw [if_pos (hh _)]
    refine ⟨?_, ?_⟩
    · intro w h
      cases h
    · intro g' h
      cases h
      rfl
  | cons w ws ih =>
    intro g hw hg
    obtain ⟨h1, h2, h3⟩ := hw w List.mem_cons_self
    have hl : (S0 ++ [x, O.lst (g.map optD)])[S0.length + 1]? = some (.lst (g.map optD)) := by simp
    have hf := fun row => first_way_ok (days := days) (hands := hands) (wishes := wishes) k h1 row hg hl
    have hr : L2.atI (rows.map rowD) (w : Int) = some (rowD (rowAt rows w)) := atI_nn (by omega) (by simp [rowAt, List.getElem?_eq_getElem h2])
    simp only [runO, List.map_cons, forL]
    rw [if_pos (hh _)]
    cases hq : (rowAt rows w).find? (goesB works g w) with
    | none =>
      have e : forT pg (callF pg T (k + 5)) (.nm 4) bodyO (D.int w) (roO days hands works wishes rows ordD S0 none none) (S0 ++ [x, .lst (g.map optD)]) = .exc "NoRoom" [("work", .int w)] (roO days hands works wishes rows ordD S0 (some (.int w)) (some .non)) (S0 ++ [x, .lst (g.map optD)]) := by
        simp [forT, bodyO, putT, putN, fieldD, hr, hf, hq, optD, gc_self, evS, flds_NoRoom]
      rw [e]
      refine ⟨?_, ?_⟩
      · intro v h
        cases h
        exact ⟨_, g, rfl⟩
      · intro g' h
        cases h
    | some way =>
      have hix : L2.ixN (g.map optD).length (w : Int) = some w := by
        rw [ixN_nn (by omega) (by simp; omega)]
        simp
      have e : forT pg (callF pg T (k + 5)) (.nm 4) bodyO (D.int w) (roO days hands works wishes rows ordD S0 none none) (S0 ++ [x, .lst (g.map optD)]) = .ok .nx (roO days hands works wishes rows ordD S0 (some (.int w)) (some (wayD way))) (S0 ++ [x, .lst ((g.set w (some way)).map optD)]) := by
        simp [forT, bodyO, putT, putN, fieldD, hr, hf, hq, optD, gc_self, -cmp_isN, wayD_isn, -List.length_map]
        rw [hix]
        simp [gc_len, fieldD]
      rw [e]
      exact ih (g.set w (some way)) (fun v hv => by
        obtain ⟨a, b, c⟩ := hw v (List.mem_cons_of_mem _ hv)
        exact ⟨a, b, by rw [List.length_set]; exact c⟩) (by rw [List.length_set]; exact hg)
theorem by_order_ok (k : Nat) {rows : List (List (Int × Int))} {ord : List Nat} (hw : ∀ w ∈ ord, w < works.length ∧ w < rows.length ∧ w < ord.length) (hg : ord.length ≤ works.length) (hz : ord.length ≤ sizeLine) (S : Sto) :
    (∀ w, runO works rows ord (List.replicate ord.length none) = .no w → callF pg T (k + 6) "by_order" [sysD days hands works wishes, fieldD rows, .tup (ord.map fun (n : Nat) => D.int n)] S = .exc "NoRoom" [("work", .int w)] S) ∧
    (∀ g, runO works rows ord (List.replicate ord.length none) = .all g → callF pg T (k + 6) "by_order" [sysD days hands works wishes, fieldD rows, .tup (ord.map fun (n : Nat) => D.int n)] S = .ok (.tup (g.map optD)) S) := by
  obtain ⟨l1, l2⟩ := loopO (days := days) (hands := hands) (works := works) (wishes := wishes) k rows (.tup (ord.map fun (n : Nat) => D.int n)) S (.lst [.non]) (hold := Wk.held ⟨ord.map fun (n : Nat) => D.int n, []⟩) (fun S => by simp) ord (List.replicate ord.length none) (fun w h => by
    obtain ⟨a, b, c⟩ := hw w h
    exact ⟨a, b, by simpa using c⟩) (by simpa using hg)
  have ev : a_by_order = .cons (.asg (.nm 3) (.bin .mul (.lst (.cons (.lit .non) .nil)) (.bif .len (.cons (.loc 2) .nil)))) (.cons (.for_ (.nm 4) (.seq (.loc 2)) bodyO [4, 5]) (.cons (.ret (.bif .tup (.cons (.loc 3) .nil))) .nil)) := rfl
  have one : (1 : Nat) ≤ sizeLine := by rw [sizeLine_eq]; decide
  have rep : (List.replicate ord.length [D.non]).flatten = (List.replicate ord.length (none : Option (Int × Int))).map optD := by
    induction ord.length with
    | zero => rfl
    | succ n ih => simp [List.replicate_succ, ih, optD]
  have hz2 : ord.length < 9223372036854775808 := by rw [sizeLine_eq] at hz; omega
  have e1 : evS pg (callF pg T (k + 5)) (.asg (.nm 3) (.bin .mul (.lst (.cons (.lit .non) .nil)) (.bif .len (.cons (.loc 2) .nil)))) (WL.start 6 [sysD days hands works wishes, fieldD rows, .tup (ord.map fun (n : Nat) => D.int n)]) S = .ok .nx (roO days hands works wishes rows (.tup (ord.map fun (n : Nat) => D.int n)) S none none) (S ++ [.lst [.non], .lst ((List.replicate ord.length (none : Option (Int × Int))).map optD)]) := by
    simp [WL.start, one, bifD, bLen, itemsOf, binD, putT, putN, hz, hz2, -List.map_replicate]
    rw [if_pos (by omega)]
    simp [gc_keep]
    exact .inr rfl
  rw [callF, T_by_order, ev]
  have hwk : ∀ S, evI pg (callF pg T (k + 5)) (.seq (.loc 2)) (roO days hands works wishes rows (.tup (ord.map fun (n : Nat) => D.int n)) S none none) (S ++ [.lst [.non], .lst ((List.replicate ord.length (none : Option (Int × Int))).map optD)]) = .ok ⟨ord.map fun (n : Nat) => D.int n, []⟩ (S ++ [.lst [.non], .lst ((List.replicate ord.length (none : Option (Int × Int))).map optD)]) := fun S => by
    simp
  refine ⟨fun w h => ?_, fun g h => ?_⟩
  · obtain ⟨ρ', g', e⟩ := l1 w h
    simp only [evSs_cons, e1, nx_nx, evS_for, hwk, st_ok, e]
    simp [gc_app]
  · have e := l2 g h
    simp only [evSs_cons, e1, nx_nx, evS_for, hwk, st_ok, e]
    have low : ∀ n, lows n (g.map optD) = true := fun n => lows_map optD (fun x => by cases x <;> rfl) g
    simp [bifD, bTup, itemsOf, gc_app, low]
end K36
end
section
set_option Elab.async false
set_option linter.all false
set_option maxRecDepth 100000
set_option maxHeartbeats 1000000
namespace K36
open PySem WL KT
theorem T__law_is_kind : T "_law_is_kind" = some ⟨2, 4, a__law_is_kind⟩ := by rfl
theorem T__law_refused : T "_law_refused" = some ⟨3, 5, a__law_refused⟩ := by rfl
variable {days : Int} {hands : List (List Int)} {works : List Wo} {wishes : D}
theorem isiD_exc {S : Sto} {l : Nat} {k c : Str} {fs : List (Str × D)} {b : Bool} (h : S[l]? = some (.exc k fs)) (hc : (pg.cls.contains c = true ∨ c = "ValueError") ∧ pg.sub k c = b) : isiDs pg S (.ref l) [c] = some b := by
  have e : isiD pg S (.ref l) c = some b := by
    simp only [isiD, h]
    rw [if_pos hc.1, hc.2]
  simp only [isiDs, e]
  cases b <;> rfl
theorem is_kind_ok (k : Nat) {S : Sto} {l : Nat} {fs : List (Str × D)} (h : S[l]? = some (.exc "NoRoom" fs)) : callF pg T (k + 1) "_law_is_kind" [.ref l, .int 2] S = .ok (.bl true) S := by
  have hl := (List.getElem?_eq_some_iff.mp h).1
  have i1 : ∀ G, isiDs pg (S ++ G) (.ref l) ["WishError"] = some true := fun G => isiD_exc (by rw [List.getElem?_append_left hl]; exact h) (by decide +kernel)
  have i2 : ∀ G, isiDs pg (S ++ G) (.ref l) ["ValueError"] = some true := fun G => isiD_exc (by rw [List.getElem?_append_left hl]; exact h) (by decide +kernel)
  have i3 : ∀ G, isiDs pg (S ++ G) (.ref l) ["TooMany"] = some false := fun G => isiD_exc (by rw [List.getElem?_append_left hl]; exact h) (by decide +kernel)
  have i4 : ∀ G, isiDs pg (S ++ G) (.ref l) ["NoPlan"] = some false := fun G => isiD_exc (by rw [List.getElem?_append_left hl]; exact h) (by decide +kernel)
  have i5 : ∀ G, isiDs pg (S ++ G) (.ref l) ["NoRoom"] = some true := fun G => isiD_exc (by rw [List.getElem?_append_left hl]; exact h) (by decide +kernel)
  have i6 : ∀ G, isiDs pg (S ++ G) (.ref l) ["NotEven"] = some false := fun G => isiD_exc (by rw [List.getElem?_append_left hl]; exact h) (by decide +kernel)
  have i7 : ∀ G, isiDs pg (S ++ G) (.ref l) ["NoDeed"] = some false := fun G => isiD_exc (by rw [List.getElem?_append_left hl]; exact h) (by decide +kernel)
  have i8 : ∀ G, isiDs pg (S ++ G) (.ref l) ["NoText"] = some false := fun G => isiD_exc (by rw [List.getElem?_append_left hl]; exact h) (by decide +kernel)
  have j1 := i1 []
  have j2 := i2 []
  have j3 := i3 []
  have j4 := i4 []
  have j5 := i5 []
  simp only [List.append_nil] at j1 j2 j3 j4 j5
  have big : (6 : Nat) ≤ sizeLine := by rw [sizeLine_eq]; decide
  have big3 : (3 : Nat) ≤ sizeLine := by rw [sizeLine_eq]; decide
  have hcomp : ∀ ρ : Ro, ρ[1]? = some (some (.int 2)) → 3 < ρ.length → ∀ S, evE pg (callF pg T k) (.comp (.cmp .eq (.loc 3) (.loc 1)) (.nm 3) (.rng1 (.lit (.int 6))) .yes [3]) ρ S = .ok (.ref S.length) (S ++ [.lst [.bl false, .bl false, .bl true, .bl false, .bl false, .bl false]]) := fun ρ h1 h3 S => by
    rw [evE_comp]
    have e := compL_pure (hold := Wk.held ⟨rangeD 0 6, []⟩) (S := S) (xs := List.range 6) (fun i => D.int (0 + (i : Nat))) (fun _ => true) (fun i => D.bl (decide ((0 + (i : Nat) : Int) = 2))) (turn := compT pg (callF pg T k) ρ (.cmp .eq (.loc 3) (.loc 1)) (.nm 3) .yes [3]) (by simp) (fun i _ => by
      simp [compT, putT, putN, kill, h1, h3, gc_self])
    have er : (List.range 6).map (fun i => D.int (0 + (i : Nat))) = rangeD 0 6 := rfl
    rw [er] at e
    simp [e, big, List.range_succ]
  rw [callF, T__law_is_kind]
  simp [a__law_is_kind, WL.start, j1, j2, j3, j4, j5, i6, i7, i8, gc_self, gc_keep, putT, putN, big3, binD, big, hcomp]
  have hc : ∀ (a b c : D), cmpD CO.eq (D.ref (List.length S + 2)) (D.ref (List.length S + 3)) (S ++ [O.lst [D.bl false, D.bl false, D.bl true], O.lst [D.bl false, D.bl false, D.bl false], O.lst [D.bl false, D.bl false, D.bl true, D.bl false, D.bl false, D.bl false], O.lst [D.bl false, D.bl false, D.bl true, D.bl false, D.bl false, D.bl false]]) = some true := fun _ _ _ => by
    simp only [cmpD, eqD, eqP]
    simp [pd, pds]
    rfl
  rw [hc .non .non .non]
  simp [gc_app]
theorem refused_ok (k : Nat) {rows : List (List (Int × Int))} {ord : List Nat} (hw : ∀ w ∈ ord, w < works.length ∧ w < rows.length ∧ w < ord.length) (hg : ord.length ≤ works.length) (hz : ord.length ≤ sizeLine) (S : Sto) (hS : ∀ (l : Nat) (o : O), S[l]? = some o → o.low S.length = true ∧ o.isExc = false) (hs : (sysD days hands works wishes).low S.length = true) :
    (∀ w, runO works rows ord (List.replicate ord.length none) = .no w → callF pg T (k + 7) "_law_refused" [sysD days hands works wishes, fieldD rows, .tup (ord.map fun (n : Nat) => D.int n)] S = .ok (.int w) S) ∧
    (∀ g, runO works rows ord (List.replicate ord.length none) = .all g → callF pg T (k + 7) "_law_refused" [sysD days hands works wishes, fieldD rows, .tup (ord.map fun (n : Nat) => D.int n)] S = .ok .non S) := by
  obtain ⟨b1, b2⟩ := by_order_ok (days := days) (hands := hands) (wishes := wishes) k hw hg hz S
  rw [callF, T__law_refused]
  refine ⟨fun w h => ?_, fun g h => ?_⟩
  · have e := b1 w h
    have hk := is_kind_ok (k + 5) (S := S ++ [.exc "NoRoom" [("work", .int w)]]) (l := S.length) (fs := [("work", .int w)]) (by simp)
    have c1 : ("NoRoom" : Str) ∈ pg.cls ∧ ("WishError" : Str) ∈ pg.cls := by decide +kernel
    have c2 : pg.sub ("NoRoom" : Str) ("WishError" : Str) = true := by decide +kernel
    have hf : fldD (S ++ [.exc "NoRoom" [("work", .int w)]]) (.ref S.length) "work" = some (.int w) := by
      simp [fldD]
    have fl : ∀ n, (fieldD rows).low n = true := fun n => by
      simp only [fieldD, low_tup]
      exact lows_map rowD (fun r => by simp only [rowD, low_tup]; exact lows_map wayD (fun _ => rfl) r) rows
    have ol : ∀ n, lows n (ord.map fun (n : Nat) => D.int n) = true := fun n => lows_map _ (fun _ => rfl) ord
    have hsuf : sufL S.length 4 (Sr.ok Fl.nx [some (sysD days hands works wishes), some (fieldD rows), some (D.tup (ord.map fun (n : Nat) => D.int n)), some (D.int w), some (D.ref S.length)] (S ++ [.exc "NoRoom" [("work", .int w)]])) =
        Sr.ok Fl.nx [some (sysD days hands works wishes), some (fieldD rows), some (D.tup (ord.map fun (n : Nat) => D.int n)), some (D.int w), none] S := by
      simp only [sufL]
      rw [if_pos]
      · simp
      · refine ⟨rfl, by simp [lowR, hs, fl, ol], by simp, fun l o hl ho => ?_⟩
        rw [List.getElem?_append_left hl] at ho
        exact hS l o ho
    simp [a__law_refused, WL.start, putT, putN, gc_self, evS, e, c1, c2, hk, hf, hsuf]
  · have e := b2 g h
    simp [a__law_refused, WL.start, putT, putN, gc_self, evS, e]
end K36
end
section
set_option Elab.async false
set_option linter.all false
set_option maxRecDepth 100000
set_option maxHeartbeats 1000000
namespace K36
open PySem WL KT
theorem T__law_fits : T "_law_fits" = some ⟨4, 6, a__law_fits⟩ := by rfl
theorem T__law_by : T "_law_by" = some ⟨3, 7, a__law_by⟩ := by rfl
variable {days : Int} {hands : List (List Int)} {works : List Wo} {wishes : D}
def pairD (p : Nat × (Int × Int)) : D := .tup [.int p.1, wayD p.2]
abbrev Gl := List (Nat × (Int × Int))
def fitsB (works : List Wo) (gl : Gl) (i : Nat) (wa : Int × Int) : Bool := !(gl.any fun p => hit works i wa (some p.2, p.1))
theorem pds_const {α : Type} (S : Sto) (n : Nat) (c : Int) : ∀ xs : List α, pds S n (xs.map fun _ => .int c) = some (xs.map fun _ => .int c)
  | [] => by simp [pds]
  | x :: xs => by simp [pds, pd, pds_const S n c xs]
theorem eq_empty {α : Type} {S : Sto} {a b : Nat} {xs : List α} {c : Int} (h1 : S[a]? = some (.lst (xs.map fun _ => .int c))) (h2 : S[b]? = some (.lst [])) : cmpD .eq (.ref a) (.ref b) S = some xs.isEmpty := by
  simp only [cmpD, eqD, eqP]
  simp only [pd, h1, h2, pds_const, pds]
  cases xs <;> rfl
theorem low_wayD (n : Nat) (w : Int × Int) : (wayD w).low n = true := rfl
theorem law_fits_ok (k : Nat) {i : Nat} (hi : i < works.length) (wa : Int × Int) {gl : Gl} (hg : ∀ p ∈ gl, p.1 < works.length) (hz : gl.length ≤ sizeLine) {S : Sto} {l : Nat} (hl : S[l]? = some (.lst (gl.map pairD))) :
    callF pg T (k + 2) "_law_fits" [sysD days hands works wishes, .ref l, .int i, wayD wa] S = .ok (.bl (fitsB works gl i wa)) S := by
  have ea : works[i]? = some works[i] := List.getElem?_eq_getElem hi
  have e := compL_pure (hold := Wk.held ⟨gl.map pairD, [(l, gl.map pairD)]⟩) (S := S) (xs := gl) pairD (fun p => hit works i wa (some p.2, p.1)) (fun _ => D.int 1)
    (turn := compT pg (callF pg T (k + 1)) (WL.start 6 [sysD days hands works wishes, .ref l, .int i, wayD wa]) (.lit (.int 1)) (.tp [4, 5]) (.val (.call "_law_clash" (.cons (.loc 0) (.cons (.loc 2) (.cons (.loc 3) (.cons (.loc 4) (.cons (.loc 5) .nil))))))) [4, 5]) (by intro p hp; simp at hp; subst hp; exact .inl hl) (fun p hp => by
      have hp1 := hg p hp
      have ej : works[p.1]? = some works[p.1] := List.getElem?_eq_getElem hp1
      have hc := fun S => law_clash_ok (days := days) (hands := hands) (wishes := wishes) k ea ej wa p.2 S
      cases hq : clashB i works[i] wa p.1 works[p.1] p.2 <;> simp [compT, pairD, putT, putNs, putN, kill, WL.start, hit, ea, ej, hc, hq, gc_self])
  have hw : evI pg (callF pg T (k + 1)) (.seq (.loc 1)) (WL.start 6 [sysD days hands works wishes, .ref l, .int i, wayD wa]) S = .ok ⟨gl.map pairD, [(l, gl.map pairD)]⟩ S := by
    simp [WL.start, wkSeq_old hl]
  have hn : (gl.filter fun p => hit works i wa (some p.2, p.1)).length ≤ sizeLine := Nat.le_trans (List.length_filter_le _ _) hz
  rw [callF, T__law_fits]
  have he : (gl.filter fun p => hit works i wa (some p.2, p.1)).isEmpty = fitsB works gl i wa := by
    unfold fitsB
    cases h : gl.any fun p => hit works i wa (some p.2, p.1) with
    | true =>
      obtain ⟨p, hp, hq⟩ := List.any_eq_true.mp h
      have : p ∈ gl.filter fun p => hit works i wa (some p.2, p.1) := List.mem_filter.mpr ⟨hp, hq⟩
      cases hf : gl.filter fun p => hit works i wa (some p.2, p.1) with
      | nil => rw [hf] at this; cases this
      | cons _ _ => rfl
    | false =>
      have : gl.filter (fun p => hit works i wa (some p.2, p.1)) = [] := by
        rw [List.filter_eq_nil_iff]
        intro p hp hq
        rw [List.any_eq_false] at h
        exact h p hp hq
      rw [this]
      rfl
  have hq := eq_empty (S := S ++ [O.lst ((gl.filter fun p => hit works i wa (some p.2, p.1)).map fun _ => D.int 1), O.lst []]) (a := S.length) (b := S.length + 1) (xs := gl.filter fun p => hit works i wa (some p.2, p.1)) (c := 1) (by simp) (by simp)
  rw [he] at hq
  have hcomp : evE pg (callF pg T (k + 1)) (.comp (.lit (.int 1)) (.tp [4, 5]) (.seq (.loc 1)) (.val (.call "_law_clash" (.cons (.loc 0) (.cons (.loc 2) (.cons (.loc 3) (.cons (.loc 4) (.cons (.loc 5) .nil))))))) [4, 5]) (WL.start 6 [sysD days hands works wishes, .ref l, .int i, wayD wa]) S = .ok (.ref S.length) (S ++ [.lst ((gl.filter fun p => hit works i wa (some p.2, p.1)).map fun _ => D.int 1)]) := by
    rw [evE_comp, hw]
    simp [e, hn, -List.map_const']
  simp [a__law_fits, hcomp, hq, gc_app, -List.map_const']
end K36
end
section
set_option Elab.async false
set_option linter.all false
set_option maxRecDepth 100000
set_option maxHeartbeats 1000000
namespace K36
open PySem WL KT
variable {days : Int} {hands : List (List Int)} {works : List Wo} {wishes : D}
theorem eq_nil {S : Sto} {a b : Nat} {ds : List D} {ps : List PyData} (h1 : S[a]? = some (.lst ds)) (hp : pds S 59 ds = some ps) (h2 : S[b]? = some (.lst [])) : cmpD .eq (.ref a) (.ref b) S = some ds.isEmpty := by
  simp only [cmpD, eqD, eqP]
  simp only [pd, h1, h2, hp, pds]
  cases ds with
  | nil =>
    simp only [pds, Option.some.injEq] at hp
    subst hp
    rfl
  | cons d ds =>
    simp only [pds] at hp
    split at hp
    · cases hp
      rfl
    · cases hp
theorem pds_ways (S : Sto) (n : Nat) : ∀ xs : List (Int × Int), pds S (n + 1) (xs.map wayD) = some (xs.map fun w => .tuple [.int w.1, .int w.2])
  | [] => by simp [pds]
  | x :: xs => by
    have := pds_ways S n xs
    simp [pds, pd, wayD, this] at this ⊢
def runL (works : List Wo) (rows : List (List (Int × Int))) : List Nat → Gl → Nat ⊕ Gl
  | [], gl => .inr gl
  | w :: ws, gl => match (rowAt rows w).filter (fitsB works gl w) with
    | [] => .inl w
    | way :: _ => runL works rows ws (gl ++ [(w, way)])
def bodyL : Sms := .cons (.asg (.nm 5) (.comp (.loc 6) (.nm 6) (.seq (.idx (.loc 1) (.loc 4))) (.val (.call "_law_fits" (.cons (.loc 0) (.cons (.loc 3) (.cons (.loc 4) (.cons (.loc 6) .nil)))))) [6])) (.cons (.iff (.val (.cmp .eq (.loc 5) (.lst .nil))) (.cons (.ret (.tup (.cons (.lit .non) (.cons (.loc 4) .nil)))) .nil) .nil) (.cons (.ex (.mth .append (.loc 3) (.cons (.tup (.cons (.loc 4) (.cons (.idx (.loc 5) (.lit (.int 0))) .nil))) .nil))) .nil))
abbrev roL (days : Int) (hands : List (List Int)) (works : List Wo) (wishes : D) (rows : List (List (Int × Int))) (ordD : D) (S0 : Sto) (a b : Option D) : Ro := [some (sysD days hands works wishes), some (fieldD rows), some ordD, some (.ref S0.length), a, b, none]
theorem turnL (k : Nat) (rows : List (List (Int × Int))) (hrows : ∀ r ∈ rows, r.length ≤ sizeLine) (ordD : D) (S0 : Sto) (G : Sto) (gl : Gl) (w : Nat) (h1 : w < works.length) (h2 : w < rows.length) (hgl : ∀ p ∈ gl, p.1 < works.length) (hz : gl.length < sizeLine) :
    ((rowAt rows w).filter (fitsB works gl w) = [] → ∃ (ρ' : Ro) (G' : Sto), forT pg (callF pg T (k + 3)) (.nm 4) bodyL (D.int w) (roL days hands works wishes rows ordD S0 none none) (S0 ++ (.lst (gl.map pairD) :: G)) = .ok (.rt (.tup [.non, .int w])) ρ' (S0 ++ (.lst (gl.map pairD) :: G'))) ∧
    (∀ way r, (rowAt rows w).filter (fitsB works gl w) = way :: r → ∃ (d : D) (G' : Sto), forT pg (callF pg T (k + 3)) (.nm 4) bodyL (D.int w) (roL days hands works wishes rows ordD S0 none none) (S0 ++ (.lst (gl.map pairD) :: G)) = .ok .nx (roL days hands works wishes rows ordD S0 (some (.int w)) (some d)) (S0 ++ (.lst ((gl ++ [(w, way)]).map pairD) :: G'))) := by
  generalize hS : S0 ++ (O.lst (gl.map pairD) :: G) = S
  have hl : S[S0.length]? = some (.lst (gl.map pairD)) := by rw [← hS]; simp
  have hlen : S0.length < S.length := (List.getElem?_eq_some_iff.mp hl).1
  have hf := fun wa => law_fits_ok (days := days) (hands := hands) (wishes := wishes) (k + 1) h1 wa hgl (Nat.le_of_lt hz) hl
  have hr : L2.atI (rows.map rowD) (w : Int) = some (rowD (rowAt rows w)) := atI_nn (by omega) (by simp [rowAt, List.getElem?_eq_getElem h2])
  have hn : ((rowAt rows w).filter (fitsB works gl w)).length ≤ sizeLine := Nat.le_trans (List.length_filter_le _ _) (hrows _ (by
    unfold rowAt
    simp [List.getElem?_eq_getElem h2]))
  have e := compL_pure (hold := Wk.held ⟨(rowAt rows w).map wayD, []⟩) (S := S) (xs := rowAt rows w) wayD (fitsB works gl w) wayD
    (turn := compT pg (callF pg T (k + 3)) (roL days hands works wishes rows ordD S0 (some (.int w)) none) (.loc 6) (.nm 6) (.val (.call "_law_fits" (.cons (.loc 0) (.cons (.loc 3) (.cons (.loc 4) (.cons (.loc 6) .nil)))))) [6]) (by simp) (fun wa _ => by
      cases hq : fitsB works gl w wa <;> simp [compT, putT, putN, kill, hf, hq, gc_self])
  have hcomp : evE pg (callF pg T (k + 3)) (.comp (.loc 6) (.nm 6) (.seq (.idx (.loc 1) (.loc 4))) (.val (.call "_law_fits" (.cons (.loc 0) (.cons (.loc 3) (.cons (.loc 4) (.cons (.loc 6) .nil)))))) [6]) (roL days hands works wishes rows ordD S0 (some (.int w)) none) S = .ok (.ref S.length) (S ++ [.lst (((rowAt rows w).filter (fitsB works gl w)).map wayD)]) := by
    rw [evE_comp]
    simp [fieldD, hr, rowD, e, hn]
  generalize hrs : (rowAt rows w).filter (fitsB works gl w) = rs at hcomp hn
  have heq := eq_nil (S := S ++ [O.lst (rs.map wayD), O.lst []]) (a := S.length) (b := S.length + 1) (ds := rs.map wayD) (by simp) (pds_ways _ 58 rs) (by simp)
  have gcA : ∀ (a : O), gc (S ++ [a]) [] (S ++ [a, .lst []]) = S ++ [a] := fun a => by
    have := gc_app (S := S ++ [a]) (ds := []) (G := [.lst []]) rfl
    simpa using this
  have two : (2 : Nat) ≤ sizeLine := by rw [sizeLine_eq]; decide
  refine ⟨fun hz0 => ?_, fun way r hz0 => ?_⟩
  · subst hz0
    simp only [List.map_nil, List.isEmpty_nil] at heq
    refine ⟨[some (sysD days hands works wishes), some (fieldD rows), some ordD, some (.ref S0.length), some (.int w), some (.ref S.length), none], G ++ [.lst []], ?_⟩
    simp only [forT, putT, putN, bodyL, evSs_cons, evS_asg]
    simp [hcomp, gc_keep, heq, gcA, two]
    simp [← hS]
  · subst hz0
    simp only [List.map_cons, List.isEmpty_cons] at heq
    refine ⟨.ref S.length, G ++ [.lst ((way :: r).map wayD)], ?_⟩
    simp only [forT, putT, putN, bodyL, evSs_cons, evS_asg]
    simp [hcomp, gc_keep, heq, gcA, two]
    have hl2 : (S ++ [O.lst (wayD way :: r.map wayD)])[S0.length]? = some (.lst (gl.map pairD)) := by rw [List.getElem?_append_left hlen]; exact hl
    have hi : isL (S ++ [O.lst (wayD way :: r.map wayD)]) (D.ref S0.length) = true := by simp only [isL, hl2]
    have hx : idxD (S ++ [O.lst (wayD way :: r.map wayD)]) (D.ref S.length) (D.int 0) = some (wayD way) := by
      exact (idxD_lst _ (ds := wayD way :: r.map wayD) (by simp) 0).trans (by simp)
    have hset : (S ++ [O.lst (wayD way :: r.map wayD)]).set S0.length (.lst (gl.map pairD ++ [pairD (w, way)])) = S0 ++ O.lst (gl.map pairD ++ [pairD (w, way)]) :: (G ++ [O.lst (wayD way :: r.map wayD)]) := by
      rw [← hS]
      simp
    have hz' : (gl.map pairD).length < sizeLine := by simpa using hz
    have hm : mthD MF.append (D.ref S0.length) [D.tup [D.int w, wayD way]] (S ++ [O.lst (wayD way :: r.map wayD)]) = .ok .non ((S ++ [O.lst (wayD way :: r.map wayD)]).set S0.length (.lst (gl.map pairD ++ [pairD (w, way)]))) := by
      simp only [mthD, mAppend, hl2]
      rw [if_pos hz']
      rfl
    rw [if_pos hi, hx]
    simp [two, hm, gc_len]
    rw [← hset]
theorem loopL (k : Nat) (rows : List (List (Int × Int))) (hrows : ∀ r ∈ rows, r.length ≤ sizeLine) (ordD : D) (S0 : Sto) {hold : Sto → Prop} (hh : ∀ S, hold S) : ∀ (ws : List Nat) (gl : Gl) (G : Sto), (∀ w ∈ ws, w < works.length ∧ w < rows.length) → (∀ p ∈ gl, p.1 < works.length) → gl.length + ws.length ≤ sizeLine →
    (∀ w, runL works rows ws gl = .inl w → ∃ (ρ' : Ro) (S' : Sto), forL hold [4, 5] (forT pg (callF pg T (k + 3)) (.nm 4) bodyL) (ws.map fun (n : Nat) => D.int n) (roL days hands works wishes rows ordD S0 none none) (S0 ++ (.lst (gl.map pairD) :: G)) = .ok (.rt (.tup [.non, .int w])) ρ' (S0 ++ S')) ∧
    (∀ gl' : Gl, runL works rows ws gl = .inr gl' → ∃ G' : Sto, forL hold [4, 5] (forT pg (callF pg T (k + 3)) (.nm 4) bodyL) (ws.map fun (n : Nat) => D.int n) (roL days hands works wishes rows ordD S0 none none) (S0 ++ (.lst (gl.map pairD) :: G)) = .ok .nx (roL days hands works wishes rows ordD S0 none none) (S0 ++ (.lst (gl'.map pairD) :: G'))) := by
  intro ws
  induction ws with
  | nil =>
    intro gl G _ _ _
    simp only [runL, List.map_nil, forL]
    rw [if_pos (hh _)]
    refine ⟨?_, ?_⟩
    · intro w h
      cases h
    · intro g' h
      cases h
      exact ⟨G, rfl⟩
  | cons w ws ih =>
    intro gl G hw hgl hz
    simp only [List.length_cons] at hz
    obtain ⟨h1, h2⟩ := hw w List.mem_cons_self
    obtain ⟨t0, t1⟩ := turnL (days := days) (hands := hands) (wishes := wishes) k rows hrows ordD S0 G gl w h1 h2 hgl (by omega)
    simp only [runL, List.map_cons, forL]
    rw [if_pos (hh _)]
    cases hq : (rowAt rows w).filter (fitsB works gl w) with
    | nil =>
      obtain ⟨ρ', G', e⟩ := t0 hq
      rw [e]
      refine ⟨?_, ?_⟩
      · intro v h
        cases h
        exact ⟨ρ', _, rfl⟩
      · intro g' h
        cases h
    | cons way r =>
      obtain ⟨d, G', e⟩ := t1 way r hq
      rw [e]
      exact ih (gl ++ [(w, way)]) G' (fun v hv => hw v (List.mem_cons_of_mem _ hv)) (fun p hp => by
        rcases List.mem_append.mp hp with hp | hp
        · exact hgl p hp
        · rw [List.mem_singleton.mp hp]
          exact h1) (by simp; omega)
end K36
end
section
set_option Elab.async false
set_option linter.all false
set_option maxRecDepth 100000
set_option maxHeartbeats 1000000
namespace K36
open PySem WL KT
variable {days : Int} {hands : List (List Int)} {works : List Wo} {wishes : D}
theorem runL_keys {rows : List (List (Int × Int))} : ∀ {ws : List Nat} {gl gl' : Gl}, runL works rows ws gl = .inr gl' → gl'.map (·.1) = gl.map (·.1) ++ ws
  | [], gl, gl', h => by
    cases h
    simp
  | w :: ws, gl, gl', h => by
    simp only [runL] at h
    split at h
    · cases h
    · rw [runL_keys h]
      simp
theorem keysD_pairs : ∀ gl : Gl, keysD (gl.map pairD) = some (gl.map fun p => (p.1 : Int))
  | [] => rfl
  | p :: gl => by
    simp only [List.map_cons, keysD, keysD_pairs gl]
    rfl
theorem sortL_map {α : Type} (f : α → D) (ks : List Int) (xs : List α) : sortL ks (xs.map f) = (sortL ks xs).map f := by
  have h : Paired (fun (x : α) (d : D) => d = f x) xs (xs.map f) := by
    induction xs with
    | nil => exact .nil
    | cons a l ih => exact .cons rfl ih
  have := sortL_rel (ks := ks) h
  have key : ∀ {l : List α} {l' : List D}, Paired (fun (x : α) (d : D) => d = f x) l l' → l' = l.map f := by
    intro l l' hp
    induction hp with
    | nil => rfl
    | cons h t ih => rw [List.map_cons, h, ih]
  exact key this
theorem sortL_len {α : Type} {ks : List Int} {xs : List α} (h : ks.length = xs.length) : (sortL ks xs).length = xs.length := by
  unfold sortL
  rw [List.length_map, (sortK_perm _).length_eq, List.length_zip, h, Nat.min_self]
theorem law_by_ok (k : Nat) {rows : List (List (Int × Int))} (hrows : ∀ r ∈ rows, r.length ≤ sizeLine) {ord : List Nat} (hw : ∀ w ∈ ord, w < works.length ∧ w < rows.length) (nd : ord.Nodup) (hz : ord.length ≤ sizeLine) (S : Sto) :
    (∀ w, runL works rows ord [] = .inl w → callF pg T (k + 4) "_law_by" [sysD days hands works wishes, fieldD rows, .tup (ord.map fun (n : Nat) => D.int n)] S = .ok (.tup [.non, .int w]) S) ∧
    (∀ gl, runL works rows ord [] = .inr gl → ∃ d, callF pg T (k + 4) "_law_by" [sysD days hands works wishes, fieldD rows, .tup (ord.map fun (n : Nat) => D.int n)] S = .ok (.tup [d, .non]) S) := by
  obtain ⟨l1, l2⟩ := loopL (days := days) (hands := hands) (works := works) (wishes := wishes) k rows hrows (.tup (ord.map fun (n : Nat) => D.int n)) S (hold := Wk.held ⟨ord.map fun (n : Nat) => D.int n, []⟩) (fun S => by simp) ord [] [] hw (fun _ h => nomatch h) (by simpa using hz)
  have ev : a__law_by = .cons (.asg (.nm 3) (.lst .nil)) (.cons (.for_ (.nm 4) (.seq (.loc 2)) bodyL [4, 5]) (.cons (.ret (.tup (.cons (.bif .tup (.cons (.comp (.loc 6) (.tp [4, 6]) (.seq (.bif .sorted (.cons (.loc 3) .nil))) .yes [4, 6]) .nil)) (.cons (.lit .non) .nil)))) .nil)) := rfl
  have e1 : evS pg (callF pg T (k + 3)) (.asg (.nm 3) (.lst .nil)) (WL.start 7 [sysD days hands works wishes, fieldD rows, .tup (ord.map fun (n : Nat) => D.int n)]) S = .ok .nx (roL days hands works wishes rows (.tup (ord.map fun (n : Nat) => D.int n)) S none none) (S ++ [.lst (([] : Gl).map pairD)]) := by
    simp [WL.start, putT, putN, gc_keep]
  have two : (2 : Nat) ≤ sizeLine := by rw [sizeLine_eq]; decide
  rw [callF, T__law_by, ev]
  have hwk : evI pg (callF pg T (k + 3)) (.seq (.loc 2)) (roL days hands works wishes rows (.tup (ord.map fun (n : Nat) => D.int n)) S none none) (S ++ [.lst (([] : Gl).map pairD)]) = .ok ⟨ord.map fun (n : Nat) => D.int n, []⟩ (S ++ [.lst (([] : Gl).map pairD)]) := by
    simp
  refine ⟨fun w h => ?_, fun gl h => ?_⟩
  · obtain ⟨ρ', S', e⟩ := l1 w h
    simp only [evSs_cons, e1, nx_nx, evS_for, hwk, st_ok, e]
    simp [gc_app]
  · obtain ⟨G', e⟩ := l2 gl h
    have hk := runL_keys h
    have hkn : (gl.map fun p => (p.1 : Int)).Nodup := by
      have : gl.map (fun p => (p.1 : Int)) = (gl.map (·.1)).map (fun (n : Nat) => (n : Int)) := by simp [List.map_map, Function.comp_def]
      rw [this, hk]
      simp only [List.map_nil, List.nil_append]
      exact List.Pairwise.map _ (fun a b hab => by omega) nd
    have hlen : gl.length ≤ sizeLine := by
      have := congrArg List.length hk
      simp at this
      omega
    generalize hS : S ++ (O.lst (gl.map pairD) :: G') = S1 at e
    have hl : S1[S.length]? = some (.lst (gl.map pairD)) := by rw [← hS]; simp
    have hso : bifD .sorted [D.ref S.length] S1 = .ok (.ref S1.length) (S1 ++ [.lst ((sortL (gl.map fun p => (p.1 : Int)) gl).map pairD)]) := by
      simp only [bifD, bSort, lstOf, hl, keysD_pairs]
      rw [if_pos hkn, sortL_map]
    have hnew := wkSeq_new (S := S1) (ds := (sortL (gl.map fun p => (p.1 : Int)) gl).map pairD) (lows_map pairD (fun _ => rfl) _)
    have ec := compL_pure (hold := Wk.held ⟨(sortL (gl.map fun p => (p.1 : Int)) gl).map pairD, []⟩) (S := S1) (xs := sortL (gl.map fun p => (p.1 : Int)) gl) pairD (fun _ => true) (fun p => wayD p.2)
      (turn := compT pg (callF pg T (k + 3)) (roL days hands works wishes rows (.tup (ord.map fun (n : Nat) => D.int n)) S none none) (.loc 6) (.tp [4, 6]) .yes [4, 6]) (by simp) (fun p _ => by simp [compT, pairD, putT, putNs, putN, kill, gc_self])
    have ft : (sortL (gl.map fun p => (p.1 : Int)) gl).filter (fun _ => true) = sortL (gl.map fun p => (p.1 : Int)) gl := List.filter_eq_self.mpr fun _ _ => rfl
    rw [ft] at ec
    have hl3 : (sortL (gl.map fun p => (p.1 : Int)) gl).length ≤ sizeLine := by rw [sortL_len (by simp)]; exact hlen
    have hcomp : evE pg (callF pg T (k + 3)) (.comp (.loc 6) (.tp [4, 6]) (.seq (.bif .sorted (.cons (.loc 3) .nil))) .yes [4, 6]) (roL days hands works wishes rows (.tup (ord.map fun (n : Nat) => D.int n)) S none none) S1 = .ok (.ref S1.length) (S1 ++ [.lst ((sortL (gl.map fun p => (p.1 : Int)) gl).map fun p => wayD p.2)]) := by
      rw [evE_comp]
      simp [hso, hnew, ec, hl3]
    have low : ∀ n, lows n ((sortL (gl.map fun p => (p.1 : Int)) gl).map fun p => wayD p.2) = true := fun n => lows_map _ (fun _ => rfl) _
    refine ⟨.tup ((sortL (gl.map fun p => (p.1 : Int)) gl).map fun p => wayD p.2), ?_⟩
    simp only [evSs_cons, e1, nx_nx, evS_for, hwk, st_ok, e]
    simp [hcomp, bifD, bTup, itemsOf, two]
    rw [← hS, List.append_assoc]
    exact gc_app (by simp [low])
def Rel (g : Giv) (gl : Gl) : Prop := ∀ (j : Nat) (way : Int × Int), g[j]? = some (some way) ↔ (j, way) ∈ gl
theorem goes_fits {g : Giv} {gl : Gl} (r : Rel g gl) (i : Nat) (wa : Int × Int) : goesB works g i wa = fitsB works gl i wa := by
  have key : (g.zipIdx.any (hit works i wa)) = (gl.any fun p => hit works i wa (some p.2, p.1)) := by
    rw [Bool.eq_iff_iff, List.any_eq_true, List.any_eq_true]
    constructor
    · rintro ⟨⟨o, j⟩, hm, hh⟩
      cases o with
      | none => simp [hit] at hh
      | some way =>
        have := (List.mem_zipIdx_iff_getElem?.mp hm)
        exact ⟨(j, way), (r j way).mp this, hh⟩
    · rintro ⟨⟨j, way⟩, hm, hh⟩
      exact ⟨(some way, j), List.mem_zipIdx_iff_getElem?.mpr ((r j way).mpr hm), hh⟩
  unfold goesB fitsB
  rw [← key]
  cases h : g.zipIdx.find? (hit works i wa) with
  | none =>
    rw [List.find?_eq_none] at h
    have : g.zipIdx.any (hit works i wa) = false := by
      rw [List.any_eq_false]
      exact h
    rw [this]
    rfl
  | some p =>
    have : g.zipIdx.any (hit works i wa) = true := List.any_eq_true.mpr ⟨p, List.mem_of_find?_eq_some h, List.find?_some h⟩
    rw [this]
    rfl
theorem run_same {rows : List (List (Int × Int))} : ∀ {ws : List Nat} {g : Giv} {gl : Gl}, Rel g gl → ws.Nodup → (∀ w ∈ ws, w < g.length ∧ ∀ p ∈ gl, p.1 ≠ w) →
    (∀ w, runO works rows ws g = .no w → runL works rows ws gl = .inl w) ∧ (∀ g', runO works rows ws g = .all g' → ∃ gl', runL works rows ws gl = .inr gl')
  | [], g, gl, r, nd, h => ⟨fun w e => (nomatch e), fun g' e => ⟨gl, rfl⟩⟩
  | w :: ws, g, gl, r, nd, h => by
    obtain ⟨h1, h2⟩ := h w List.mem_cons_self
    have ef : goesB works g w = fitsB works gl w := funext fun wa => goes_fits r w wa
    have hd := List.head?_filter (p := fitsB works gl w) (l := rowAt rows w)
    simp only [runO, runL, ef]
    cases hq : (rowAt rows w).filter (fitsB works gl w) with
    | nil =>
      rw [hq] at hd
      rw [← hd]
      exact ⟨fun v e => by cases e; rfl, fun g' e => nomatch e⟩
    | cons way rest =>
      rw [hq] at hd
      rw [← hd]
      obtain ⟨n1, n2⟩ := List.nodup_cons.mp nd
      refine run_same (fun j v => ?_) n2 (fun v hv => ?_)
      · rw [List.getElem?_set]
        by_cases hj : w = j
        · subst hj
          simp only [if_true, h1]
          constructor
          · intro e
            cases e
            simp
          · intro hm
            rcases List.mem_append.mp hm with hm | hm
            · exact absurd rfl (h2 _ hm)
            · cases List.mem_singleton.mp hm
              rfl
        · rw [if_neg hj, r j v]
          simp [Ne.symm hj]
      · obtain ⟨a, b⟩ := h v (List.mem_cons_of_mem _ hv)
        refine ⟨by rw [List.length_set]; exact a, fun p hp => ?_⟩
        rcases List.mem_append.mp hp with hp | hp
        · exact b p hp
        · cases List.mem_singleton.mp hp
          exact fun e => n1 (by rw [← e] at hv; exact hv)
end K36
end
section
set_option Elab.async false
set_option linter.all false
set_option maxRecDepth 100000
set_option maxHeartbeats 1000000
namespace K36
open PySem WL KT
theorem T__law_next : T "_law_next" = some ⟨1, 5, a__law_next⟩ := by rfl
structure Dk where
  sc : List Int
  digs : List Int
  cells : List Int
  at_ : Int
def Dk.sto (d : Dk) : Sto := [.rls (d.sc.map .int), .lst (d.digs.map .int), .lst (d.cells.map .int), .lst [.ref 1, .ref 2, .int d.at_]]
structure Dk.ok (d : Dk) (b : Nat) : Prop where
  dg : ∀ x ∈ d.digs, 0 ≤ x
  cl : ∀ x ∈ d.cells, 0 ≤ x ∧ x < 2147483629
  ne : d.cells ≠ []
  a0 : 0 ≤ d.at_
  a1 : d.at_ ≤ b
theorem Dk.ok.mono {d : Dk} {b c : Nat} (h : d.ok b) (e : b ≤ c) : d.ok c := ⟨h.dg, h.cl, h.ne, h.a0, by have := h.a1; omega⟩
theorem pds_ints (S : Sto) (n : Nat) : ∀ xs : List Int, pds S n (xs.map .int) = some (xs.map .int)
  | [] => by simp [pds]
  | x :: xs => by cases n <;> simp [pds, pd, pds_ints S _ xs]
theorem ne_nil {S : Sto} {a b : Nat} {xs : List Int} (h1 : S[a]? = some (.lst (xs.map .int))) (h2 : S[b]? = some (.lst [])) : cmpD .ne (.ref a) (.ref b) S = some (!xs.isEmpty) := by
  have := eq_nil h1 (pds_ints S 59 xs) h2
  have e : cmpD .ne (.ref a) (.ref b) S = (cmpD .eq (.ref a) (.ref b) S).map (!·) := rfl
  rw [e, this]
  simp
def muls : List D := [.int 48271, .int 69621, .int 16807, .int 39373, .int 30323, .int 51749, .int 44417, .int 27449, .int 63073, .int 55001, .int 33791, .int 40009]
theorem muls_at {i : Int} (h0 : 0 ≤ i) (h1 : i < 12) : ∃ m : Int, L2.atI muls i = some (.int m) ∧ 0 ≤ m ∧ m < 70000 := by
  have hm : ∀ j : Nat, j < 12 → ∃ m : Int, muls[j]? = some (.int m) ∧ 0 ≤ m ∧ m < 70000 := by
    intro j hj
    match j, hj with
    | 0, _ => exact ⟨_, rfl, by decide, by decide⟩
    | 1, _ => exact ⟨_, rfl, by decide, by decide⟩
    | 2, _ => exact ⟨_, rfl, by decide, by decide⟩
    | 3, _ => exact ⟨_, rfl, by decide, by decide⟩
    | 4, _ => exact ⟨_, rfl, by decide, by decide⟩
    | 5, _ => exact ⟨_, rfl, by decide, by decide⟩
    | 6, _ => exact ⟨_, rfl, by decide, by decide⟩
    | 7, _ => exact ⟨_, rfl, by decide, by decide⟩
    | 8, _ => exact ⟨_, rfl, by decide, by decide⟩
    | 9, _ => exact ⟨_, rfl, by decide, by decide⟩
    | 10, _ => exact ⟨_, rfl, by decide, by decide⟩
    | 11, _ => exact ⟨_, rfl, by decide, by decide⟩
    | n + 12, h => exact absurd h (by omega)
  obtain ⟨m, e, p⟩ := hm i.toNat (by omega)
  exact ⟨m, atI_nn h0 e, p⟩
theorem next_dig (k : Nat) {S : Sto} {x : Int} {xs : List Int} {o2 : D} {at_ : D} (h1 : S[1]? = some (.lst ((x :: xs).map .int))) (h3 : S[3]? = some (.lst [.ref 1, o2, at_])) :
    callF pg T (k + 1) "_law_next" [.ref 3] S = .ok (.int x) (S.set 1 (.lst (xs.map .int))) := by
  have l1 := (List.getElem?_eq_some_iff.mp h1).1
  have l3 := (List.getElem?_eq_some_iff.mp h3).1
  have i0 : ∀ G, idxD (S ++ G) (.ref 3) (.int 0) = some (.ref 1) := fun G => by
    rw [idxD_lst (ds := [.ref 1, o2, at_]) _ (by rw [List.getElem?_append_left l3, h3])]
    simp
  have i0' := i0 []
  simp only [List.append_nil] at i0'
  have ga : gc S [] (S ++ [.lst []]) = S := gc_app rfl
  have hne : cmpD .ne (.ref 1) (.ref S.length) (S ++ [.lst []]) = some true := by
    rw [ne_nil (xs := x :: xs) (by rw [List.getElem?_append_left l1, h1]) (by simp)]
    rfl
  have hL : isL S (.ref 1) = true := by simp only [isL, h1]
  have hp : mthD .pop1 (.ref 1) [.int 0] S = .ok (.int x) (S.set 1 (.lst (xs.map .int))) := by
    simp only [mthD, mPop1, h1]
    have ei : seqIndex? 0 ((x :: xs).map D.int).length = some 0 := by simp [seqIndex?]
    rw [if_pos (by decide), ei]
    rfl
  rw [callF, T__law_next]
  simp [a__law_next, WL.start, i0', hne, hL, hp, ga, gc_self, gc_len]
theorem next_cell (k : Nat) {cells : List Int} {at_ : Int} (hc : ∀ x ∈ cells, 0 ≤ x ∧ x < 2147483629) (hn : cells ≠ []) (a0 : 0 ≤ at_) (a1 : at_ ≤ 1000000000) :
    ∃ n, 0 ≤ n ∧ ∀ (S : Sto), S[1]? = some (.lst []) → S[2]? = some (.lst (cells.map .int)) → S[3]? = some (.lst [.ref 1, .ref 2, .int at_]) → callF pg T (k + 1) "_law_next" [.ref 3] S = .ok (.int n) (S.set 3 (.lst [.ref 1, .ref 2, .int (at_ + 1)])) := by
  have hpos : 0 < cells.length := List.length_pos_iff.mpr hn
  obtain ⟨m1, e1, p1, q1⟩ := muls_at (i := at_ % 12) (by omega) (by omega)
  obtain ⟨m2, e2, p2, q2⟩ := muls_at (i := (at_ + 5) % 12) (by omega) (by omega)
  have hci : (0 : Int) ≤ (at_ + 1) % (cells.length : Int) ∧ (at_ + 1) % (cells.length : Int) < cells.length := ⟨Int.emod_nonneg _ (by omega), Int.emod_lt_of_pos _ (by omega)⟩
  have hlt : ((at_ + 1) % (cells.length : Int)).toNat < cells.length := by omega
  obtain ⟨c, ec, cb⟩ : ∃ c, cells[((at_ + 1) % (cells.length : Int)).toNat]? = some c ∧ 0 ≤ c ∧ c < 2147483629 := ⟨_, List.getElem?_eq_getElem hlt, hc _ (List.getElem_mem hlt)⟩
  have x1 : ∃ x, x = c + 7 * at_ := ⟨_, rfl⟩
  obtain ⟨x, hx⟩ := x1
  have hx0 : 0 ≤ x ∧ x < 10000000000 := by omega
  have hy0 : 0 ≤ m1 * (at_ + 1) := Int.mul_nonneg p1 (by omega)
  have hy1 : m1 * (at_ + 1) ≤ 70000 * 1000000001 := Int.mul_le_mul (by omega) (by omega) (by omega) (by omega)
  refine ⟨((x + m1 * (at_ + 1)) ^ 5 % 2147483647 + m2 * x) % 2147483629, Int.emod_nonneg _ (by decide), fun S h1 h2 h3 => ?_⟩
  have l1 := (List.getElem?_eq_some_iff.mp h1).1
  have l2 := (List.getElem?_eq_some_iff.mp h2).1
  have l3 := (List.getElem?_eq_some_iff.mp h3).1
  have S1 : ∃ S1, S1 = S.set 3 (.lst [.ref 1, .ref 2, .int (at_ + 1)]) := ⟨_, rfl⟩
  obtain ⟨S1, hS1⟩ := S1
  have k2 : S1[2]? = some (.lst (cells.map .int)) := by rw [hS1, List.getElem?_set_ne (by decide), h2]
  have k3 : S1[3]? = some (.lst [.ref 1, .ref 2, .int (at_ + 1)]) := by rw [hS1, List.getElem?_set_self l3]
  have kl : S1.length = S.length := by rw [hS1]; simp
  have i0 : idxD S (.ref 3) (.int 0) = some (.ref 1) := by rw [idxD_lst _ h3]; simp
  have i2 : idxD S (.ref 3) (.int 2) = some (.int at_) := by rw [idxD_lst _ h3]; simp
  have j1 : idxD S1 (.ref 3) (.int 1) = some (.ref 2) := by rw [idxD_lst _ k3]; simp
  have j2 : idxD S1 (.ref 2) (.int ((at_ + 1) % (cells.length : Int))) = some (.int c) := by
    rw [idxD_lst _ k2]
    exact atI_nn hci.1 (by simp [ec])
  have hlen : bifD .len [.ref 2] S1 = .ok (.int cells.length) S1 := by
    simp [bifD, bLen, itemsOf, k2]
  have ga : gc S [] (S ++ [.lst []]) = S := gc_app rfl
  have hne : cmpD .ne (.ref 1) (.ref S.length) (S ++ [.lst []]) = some false := by
    rw [ne_nil (xs := []) (by rw [List.getElem?_append_left l1, h1]; rfl) (by simp)]
    rfl
  have hset : L2.ixN 3 2 = some 2 := by rfl
  have big : (12 : Nat) ≤ sizeLine := by rw [sizeLine_eq]; decide
  have b7 : binD .mul (.int 7) (.int at_) S1 = .ok (.int (7 * at_)) S1 := by
    simp only [binD]; rw [if_pos (.inl (by decide))]
  have bm : binD .mod (.int (at_ + 1)) (.int cells.length) S1 = .ok (.int ((at_ + 1) % cells.length)) S1 := by
    simp only [binD]; rw [if_pos (by omega)]
  have md : ∀ i j : Int, 0 < j → binD .mod (.int i) (.int j) S1 = .ok (.int (i % j)) S1 := fun i j h => by
    simp only [binD]; rw [if_pos h]
  have bb : binD .mul (.int m1) (.int (at_ + 1)) S1 = .ok (.int (m1 * (at_ + 1))) S1 := by
    simp only [binD]; rw [if_pos (.inl (by omega))]
  have bp : binD .pow (.int (x + m1 * (at_ + 1))) (.int 5) S1 = .ok (.int ((x + m1 * (at_ + 1)) ^ 5)) S1 := by
    simp only [binD]
    rw [if_pos ⟨by decide, by decide, by omega⟩]
    rfl
  have b2 : binD .mul (.int m2) (.int x) S1 = .ok (.int (m2 * x)) S1 := by
    simp only [binD]; rw [if_pos (.inl (by omega))]
  rw [callF, T__law_next]
  simp [a__law_next, WL.start, i0, i2, hne, ga, gc_self, gc_len, h3, hset, ← hS1, kl, putT, putN, big]
  simp [j1, j2, hlen, bm, b7, md, big, ← hx, show ∀ xs, L2.atI [D.int 48271, .int 69621, .int 16807, .int 39373, .int 30323, .int 51749, .int 44417, .int 27449, .int 63073, .int 55001, .int 33791, .int 40009] xs = L2.atI muls xs from fun _ => rfl, e1, e2, bb, bp, b2, gc_self, gc_len, kl]
theorem next_ok (k : Nat) {d : Dk} {b : Nat} (h : d.ok b) (hb : b ≤ 1000000000) : ∃ (n : Int) (d' : Dk), 0 ≤ n ∧ d'.ok (b + 1) ∧ ∀ G, callF pg T (k + 1) "_law_next" [.ref 3] (d.sto ++ G) = .ok (.int n) (d'.sto ++ G) := by
  obtain ⟨sc, digs, cells, at_⟩ := d
  cases digs with
  | nil =>
    have a1 := h.a1
    simp only at a1
    obtain ⟨n, hn, e⟩ := next_cell k (cells := cells) (at_ := at_) h.cl h.ne h.a0 (by omega)
    refine ⟨n, ⟨sc, [], cells, at_ + 1⟩, hn, ⟨h.dg, h.cl, h.ne, by have := h.a0; simp only at this ⊢; omega, by simp only; omega⟩, fun G => ?_⟩
    rw [e _ rfl rfl rfl]
    rfl
  | cons x xs =>
    refine ⟨x, ⟨sc, xs, cells, at_⟩, h.dg x (List.mem_cons_self), ⟨fun y hy => h.dg y (List.mem_cons_of_mem _ hy), h.cl, h.ne, h.a0, by have := h.a1; simp only at this ⊢; omega⟩, fun G => ?_⟩
    rw [next_dig k (x := x) (xs := xs) (o2 := .ref 2) (at_ := .int at_) rfl rfl]
    rfl
end K36
end
section
set_option Elab.async false
set_option linter.all false
set_option maxRecDepth 100000
set_option maxHeartbeats 1000000
namespace K36
open PySem WL KT
theorem sto_len (d : Dk) (G : Sto) : (d.sto ++ G).length = 4 + G.length := by simp [Dk.sto]; omega
@[simp] theorem sto_len1 (d : Dk) : d.sto.length = 4 := rfl
@[simp] theorem gc_dk (d d' : Dk) (G : Sto) (ds : List D) : gc (d.sto ++ G) ds (d'.sto ++ G) = d'.sto ++ G := gc_len (by rw [sto_len, sto_len])
theorem sto_low (d : Dk) (n : Nat) (hn : 4 ≤ n) : ∀ (l : Nat) (o : O), d.sto[l]? = some o → o.low n = true := by
  intro l o h
  have hm : o ∈ d.sto := List.mem_of_getElem? h
  simp only [Dk.sto, List.mem_cons, List.not_mem_nil, or_false] at hm
  rcases hm with rfl | rfl | rfl | rfl
  · exact lows_map _ (fun _ => rfl) _
  · exact lows_map _ (fun _ => rfl) _
  · exact lows_map _ (fun _ => rfl) _
  · simp only [O.low, lows_cons, low_ref, low_int, lows_nil, Bool.and_true, Bool.and_eq_true, decide_eq_true_eq]
    omega
theorem gc_dk2 (d d' : Dk) (G H : Sto) (ds : List D) (h : lows (4 + G.length) ds = true) : gc (d.sto ++ G) ds (d'.sto ++ (G ++ H)) = d'.sto ++ G := by
  unfold gc
  rw [sto_len]
  rw [if_pos]
  · rw [← List.append_assoc, ← sto_len d' G]
    exact List.take_left
  · refine ⟨h, by rw [sto_len]; simp, fun l hl => ?_⟩
    by_cases h4 : l < 4
    · right
      have e : (d'.sto ++ (G ++ H))[l]? = d'.sto[l]? := List.getElem?_append_left (by simp [Dk.sto]; omega)
      have e2 : l < d'.sto.length := by simp [Dk.sto]; omega
      exact ⟨d'.sto[l], by rw [e, List.getElem?_eq_getElem e2], sto_low d' _ (by omega) l _ (List.getElem?_eq_getElem e2)⟩
    · left
      have a1 : d'.sto.length = 4 := rfl
      have a2 : d.sto.length = 4 := rfl
      rw [List.getElem?_append_right (l₁ := d'.sto) (by omega), List.getElem?_append_right (l₁ := d.sto) (by omega), a1, a2, List.getElem?_append_left (by omega)]
theorem comp_filter {hold : Sto → Prop} (hh : ∀ S, hold S) {turn : D → Sto → Res (Option D)} (m : Nat) : ∀ (xs : List Int) (d : Dk) (b : Nat), d.ok b → b + m * xs.length ≤ 1000000000 →
    (∀ x ∈ xs, ∀ (d : Dk) (b : Nat), d.ok b → b + m ≤ 1000000000 → ∃ (q : Bool) (d' : Dk), d'.ok (b + m) ∧ ∀ G, turn (.int x) (d.sto ++ G) = .ok (if q then some (.int x) else none) (d'.sto ++ G)) →
    ∃ (L : List Int) (d' : Dk), (∀ x ∈ L, x ∈ xs) ∧ L.length ≤ xs.length ∧ d'.ok (b + m * xs.length) ∧ ∀ G, compL hold turn (xs.map .int) (d.sto ++ G) = .ok (L.map .int) (d'.sto ++ G)
  | [], d, b, hd, hb, ht => ⟨[], d, fun _ h => h, Nat.le_refl _, hd.mono (by omega), fun G => by
      simp only [List.map_nil, compL]
      rw [if_pos (hh _)]⟩
  | x :: xs, d, b, hd, hb, ht => by
    have hm : m * (x :: xs).length = m * xs.length + m := by rw [List.length_cons, Nat.mul_add, Nat.mul_one]
    obtain ⟨q, d1, h1, e1⟩ := ht x List.mem_cons_self d b hd (by omega)
    obtain ⟨L, d2, i1, i2, i3, i4⟩ := comp_filter hh m xs d1 (b + m) h1 (by omega) (fun y hy => ht y (List.mem_cons_of_mem _ hy))
    refine ⟨if q then x :: L else L, d2, ?_, ?_, i3.mono (by omega), fun G => ?_⟩
    · intro y hy
      cases q with
      | true => rcases List.mem_cons.mp hy with rfl | h
                · exact List.mem_cons_self
                · exact List.mem_cons_of_mem _ (i1 y h)
      | false => exact List.mem_cons_of_mem _ (i1 y hy)
    · cases q <;> simp <;> omega
    · simp only [List.map_cons, compL]
      rw [if_pos (hh _), e1 G]
      simp only
      rw [i4 G]
      cases q <;> rfl
theorem comp_map {α : Type} (f : α → D) (P : Int → α → Prop) {hold : Sto → Prop} (hh : ∀ S, hold S) {turn : D → Sto → Res (Option D)} (m : Nat) : ∀ (xs : List Int) (d : Dk) (b : Nat), d.ok b → b + m * xs.length ≤ 1000000000 →
    (∀ x ∈ xs, ∀ (d : Dk) (b : Nat), d.ok b → b + m ≤ 1000000000 → ∃ (v : α) (d' : Dk), P x v ∧ d'.ok (b + m) ∧ ∀ G, turn (.int x) (d.sto ++ G) = .ok (some (f v)) (d'.sto ++ G)) →
    ∃ (L : List α) (d' : Dk), L.length = xs.length ∧ (∀ (i : Nat) (v : α), L[i]? = some v → ∃ x, xs[i]? = some x ∧ P x v) ∧ d'.ok (b + m * xs.length) ∧ ∀ G, compL hold turn (xs.map .int) (d.sto ++ G) = .ok (L.map f) (d'.sto ++ G)
  | [], d, b, hd, hb, ht => ⟨[], d, rfl, fun i v h => by simp at h, hd.mono (by omega), fun G => by
      simp only [List.map_nil, compL]
      rw [if_pos (hh _)]⟩
  | x :: xs, d, b, hd, hb, ht => by
    have hm : m * (x :: xs).length = m * xs.length + m := by rw [List.length_cons, Nat.mul_add, Nat.mul_one]
    obtain ⟨v, d1, hv, h1, e1⟩ := ht x List.mem_cons_self d b hd (by omega)
    obtain ⟨L, d2, i1, i2, i3, i4⟩ := comp_map f P hh m xs d1 (b + m) h1 (by omega) (fun y hy => ht y (List.mem_cons_of_mem _ hy))
    refine ⟨v :: L, d2, by simp [i1], ?_, i3.mono (by omega), fun G => ?_⟩
    · intro i w hw
      cases i with
      | zero => simp at hw; subst hw; exact ⟨x, by simp, hv⟩
      | succ i => exact i2 i w (by simpa using hw)
    · simp only [List.map_cons, compL]
      rw [if_pos (hh _), e1 G]
      simp only
      rw [i4 G]
def ups (n : Nat) : List Int := (List.range n).map fun (i : Nat) => (i : Int)
theorem rangeD_ups (j : Int) : rangeD 0 j = (ups j.toNat).map .int := by
  simp [rangeD, ups]
theorem ups_len (n : Nat) : (ups n).length = n := by simp [ups]
theorem ups_mem {n : Nat} {x : Int} : x ∈ ups n ↔ 0 ≤ x ∧ x < n := by
  simp only [ups, List.mem_map, List.mem_range]
  refine ⟨fun ⟨a, h, e⟩ => by omega, fun ⟨h, h2⟩ => ⟨x.toNat, by omega, by omega⟩⟩
theorem T__law_rows_of : T "_law_rows_of" = some ⟨3, 4, a__law_rows_of⟩ := by rfl
theorem T__law_work : T "_law_work" = some ⟨4, 9, a__law_work⟩ := by rfl
theorem md (S : Sto) (i j : Int) (h : 0 < j) : binD .mod (.int i) (.int j) S = .ok (.int (i % j)) S := by
  simp only [binD]; rw [if_pos h]
theorem held_all (xs : List D) : ∀ S, Wk.held ⟨xs, []⟩ S := fun S => by simp
theorem tupN (G : Sto) (d : Dk) (L : List D) : bTup [.ref (4 + G.length)] (d.sto ++ (G ++ [.lst L])) = .ok (.tup L) (d.sto ++ (G ++ [.lst L])) := by
  have e : (d.sto ++ (G ++ [O.lst L]))[4 + G.length]? = some (.lst L) := by
    rw [← List.append_assoc, List.getElem?_append_right (Nat.le_of_eq (sto_len _ _)), sto_len]
    simp
  simp only [bTup, itemsOf, e]
theorem big_of {n : Nat} (h : n ≤ 1000) : n ≤ sizeLine := by rw [sizeLine_eq]; omega
theorem rows_of_ok (k : Nat) {d : Dk} {b : Nat} (h : d.ok b) {high much : Int} (h0 : 0 ≤ high + 1) (h1 : high + 1 ≤ 100) (hm : 0 < much) (hb : b + 100 ≤ 1000000000) :
    ∃ (L : List Int) (d' : Dk), (∀ x ∈ L, 0 ≤ x ∧ x < high + 1) ∧ L.length ≤ 100 ∧ d'.ok (b + 100) ∧ ∀ G, callF pg T (k + 2) "_law_rows_of" [.ref 3, .int high, .int much] (d.sto ++ G) = .ok (.tup (L.map .int)) (d'.sto ++ G) := by
  obtain ⟨L, d', i1, i2, i3, i4⟩ := comp_filter (hold := Wk.held ⟨(ups (high + 1).toNat).map .int, []⟩) (held_all _) (turn := compT pg (callF pg T (k + 1)) [some (.ref 3), some (.int high), some (.int much), none] (.loc 3) (.nm 3) (.val (.cmp .eq (.bin .mod (.call "_law_next" (.cons (.loc 0) .nil)) (.loc 2)) (.lit (.int 0)))) [3]) 1 (ups (high + 1).toNat) d b h (by rw [ups_len]; omega) (fun x hx d b hd hb => by
    obtain ⟨n, d', hn, ho, e⟩ := next_ok k hd (by omega)
    refine ⟨decide (n % much = 0), d', ho, fun G => ?_⟩
    simp [compT, putT, putN, kill, e, md _ _ _ hm]
    by_cases hq : n % much = 0 <;> simp [hq])
  rw [ups_len] at i2 i3
  refine ⟨L, d', fun x hx => by have := ups_mem.mp (i1 x hx); omega, by omega, i3.mono (by omega), fun G => ?_⟩
  rw [callF, T__law_rows_of]
  have hz : (L.map D.int).length ≤ sizeLine := big_of (by simp; omega)
  simp only [List.length_map] at hz
  simp [a__law_rows_of, WL.start, evE_comp, rangeD_ups, i4, hz, bifD, tupN, show high + 1 ≤ 1000000 by omega, show (-4611686018427387904 : Int) ≤ high + 1 by omega]
  exact gc_dk2 d d' G _ [.tup (L.map .int)] (by simp; exact lows_map _ (fun _ => rfl) _)
theorem pds_tup (S : Sto) (L : List Int) : pd S 60 (.tup (L.map .int)) = some (.tuple (L.map .int)) := by
  simp [pd, pds_ints]
theorem eq_tup0 (S : Sto) (L : List Int) : cmpD .eq (.tup (L.map .int)) (.tup []) S = some L.isEmpty := by
  have e0 : pd S 60 (.tup []) = some (.tuple []) := by simp [pd, pds]
  simp only [cmpD, eqD, eqP, pds_tup, e0]
  cases L <;> rfl
theorem eq_tup0c (S : Sto) (x : Int) (L : List Int) : cmpD .eq (.tup (.int x :: L.map .int)) (.tup []) S = some false := eq_tup0 S (x :: L)
theorem eq_tup0n (S : Sto) : cmpD .eq (.tup []) (.tup []) S = some true := eq_tup0 S []
theorem three_at {α : Type} (a b c : α) {i : Int} (h0 : 0 ≤ i) (h1 : i < 3) : ∃ m, L2.atI [a, b, c] i = some m ∧ (m = a ∨ m = b ∨ m = c) := by
  have : i = 0 ∨ i = 1 ∨ i = 2 := by omega
  rcases this with rfl | rfl | rfl <;> simp
theorem idx_new (G : Sto) (d : Dk) (L : List D) (i : Int) : idxD (d.sto ++ (G ++ [.lst L])) (.ref (4 + G.length)) (.int i) = L2.atI L i := by
  refine idxD_lst _ ?_ i
  rw [← List.append_assoc, List.getElem?_append_right (Nat.le_of_eq (sto_len _ _)), sto_len]
  simp
structure Wo.ok (w : Wo) (number hands len : Int) : Prop where
  l0 : 1 ≤ w.len
  l1 : w.len ≤ len
  ah : ∀ x ∈ w.ahead, 0 ≤ x ∧ x < number
  ab : ∀ x ∈ w.able, 0 ≤ x ∧ x < hands
  n1 : w.ahead.length ≤ 100
  n2 : w.able.length ≤ 100
theorem work_ok (k : Nat) {d : Dk} {b : Nat} (h : d.ok b) {number hands len : Int} (h0 : 0 ≤ number) (h1 : number ≤ 100) (g0 : 0 < hands) (g1 : hands ≤ 100) (hl : 0 < len) (hb : b + 1000 ≤ 1000000000) :
    ∃ (w : Wo) (d' : Dk), w.ok number hands len ∧ d'.ok (b + 1000) ∧ ∀ G, callF pg T (k + 3) "_law_work" [.ref 3, .int number, .int hands, .int len] (d.sto ++ G) = .ok w.d (d'.sto ++ G) := by
  obtain ⟨n1, d1, p1, o1, e1⟩ := next_ok (k + 1) h (by omega)
  obtain ⟨n2, d2, p2, o2, e2⟩ := next_ok (k + 1) o1 (by omega)
  obtain ⟨m, em, hm⟩ := three_at (D.int 3) (.int 5) (.int 100) (i := n2 % 3) (by omega) (by omega)
  obtain ⟨mi, rfl, hmi⟩ : ∃ mi : Int, m = .int mi ∧ 0 < mi := by
    rcases hm with rfl | rfl | rfl
    · exact ⟨_, rfl, by decide⟩
    · exact ⟨_, rfl, by decide⟩
    · exact ⟨_, rfl, by decide⟩
  obtain ⟨L, d3, l1, l2, o3, e3⟩ := rows_of_ok k (b := b + 1 + 1) o2 (high := number - 1) (much := mi) (by omega) (by omega) hmi (by omega)
  obtain ⟨n4, d4, p4, o4, e4⟩ := next_ok (k + 1) o3 (by omega)
  have hr0 : 0 < 3 := by decide
  obtain ⟨A, d5, a1, a2, o5, e5⟩ := comp_filter (hold := Wk.held ⟨(ups hands.toNat).map .int, []⟩) (held_all _) (turn := compT pg (callF pg T (k + 2)) [some (.ref 3), some (.int number), some (.int hands), some (.int len), some (.int (1 + n1 % len)), some (.tup (L.map .int)), some (.int (n4 % 3)), none, none] (.loc 8) (.nm 8) (.or (.cons (.val (.cmp .eq (.loc 6) (.lit (.int 0)))) (.cons (.val (.cmp .eq (.bin .mod (.call "_law_next" (.cons (.loc 0) .nil)) (.lit (.int 2))) (.lit (.int 0)))) .nil))) [8]) 1 (ups hands.toNat) d4 _ o4 (by rw [ups_len]; omega) (fun x hx d b hd hb => by
    by_cases hz : n4 % 3 = 0
    · refine ⟨true, d, hd.mono (by omega), fun G => ?_⟩
      simp [compT, putT, putN, kill, hz]
    · obtain ⟨n, d', hn, ho, e⟩ := next_ok (k + 1) hd (by omega)
      refine ⟨decide (n % 2 = 0), d', ho, fun G => ?_⟩
      simp [compT, putT, putN, kill, e, md _ _ _ (show (0 : Int) < 2 by decide), hz]
      by_cases hq : n % 2 = 0 <;> simp [hq])
  rw [ups_len] at a2 o5
  have three : (3 : Nat) ≤ sizeLine := big_of (by decide)
  have one : (1 : Nat) ≤ sizeLine := big_of (by decide)
  have zero : (0 : Nat) ≤ sizeLine := big_of (by decide)
  have hAz : A.length ≤ sizeLine := big_of (by omega)
  have gt2 : ∀ (H : Sto) G, gc (d4.sto ++ G) [.tup (A.map .int)] (d5.sto ++ (G ++ H)) = d5.sto ++ G := fun H G => gc_dk2 d4 d5 G H _ (by simp; exact lows_map _ (fun _ => rfl) _)
  have gt1 : ∀ (H : Sto) G, gc (d1.sto ++ G) [.tup (L.map .int)] (d3.sto ++ (G ++ H)) = d3.sto ++ G := fun H G => gc_dk2 d1 d3 G H _ (by simp; exact lows_map _ (fun _ => rfl) _)
  have e3' : ∀ (H G : Sto), callF pg T (k + 2) "_law_rows_of" [.ref 3, .int (number - 1), .int mi] (d2.sto ++ (G ++ H)) = .ok (.tup (L.map .int)) (d3.sto ++ (G ++ H)) := fun H G => e3 (G ++ H)
  cases A with
  | nil =>
    obtain ⟨n6, d6, p6, o6, e6⟩ := next_ok (k + 1) o5 (by omega)
    refine ⟨⟨1 + n1 % len, L, [n6 % hands]⟩, d6, ⟨?_, ?_, fun x hx => ?_, fun x hx => ?_, l2, by simp⟩, o6.mono (by omega), fun G => ?_⟩
    · have := Int.emod_nonneg n1 (show len ≠ 0 by omega)
      simp only; omega
    · have := Int.emod_lt_of_pos n1 hl
      simp only; omega
    · have := l1 x hx
      omega
    · have := Int.emod_lt_of_pos n6 g0
      have := Int.emod_nonneg n6 (show hands ≠ 0 by omega)
      simp at hx
      omega
    · rw [callF, T__law_work]
      simp only [List.map_nil] at e5 gt2
      simp [a__law_work, WL.start, e1, e2, md _ _ _ hl, putT, putN, md _ _ _ (show (0 : Int) < 3 by decide), three, idx_new, em, e3', gt1, e4, evE_comp, rangeD_ups, e5, show hands ≤ 1000000 by omega, show (-4611686018427387904 : Int) ≤ hands by omega, bifD, tupN, gt2, eq_tup0n, e6, md _ _ _ g0, one, zero, Wo.d]
  | cons a A =>
    refine ⟨⟨1 + n1 % len, L, a :: A⟩, d5, ⟨?_, ?_, fun x hx => ?_, fun x hx => ?_, l2, by simp only; omega⟩, o5.mono (by omega), fun G => ?_⟩
    · have := Int.emod_nonneg n1 (show len ≠ 0 by omega)
      simp only; omega
    · have := Int.emod_lt_of_pos n1 hl
      simp only; omega
    · have := l1 x hx
      omega
    · have := ups_mem.mp (a1 x hx)
      omega
    · rw [callF, T__law_work]
      simp only [List.length_cons] at hAz
      simp only [List.map_cons] at e5 gt2
      simp [a__law_work, WL.start, e1, e2, md _ _ _ hl, putT, putN, md _ _ _ (show (0 : Int) < 3 by decide), three, idx_new, em, e3', gt1, e4, evE_comp, rangeD_ups, e5, show hands ≤ 1000000 by omega, show (-4611686018427387904 : Int) ≤ hands by omega, bifD, tupN, gt2, eq_tup0c, one, zero, Wo.d, hAz]
end K36
end
section
set_option Elab.async false
set_option linter.all false
set_option maxRecDepth 100000
set_option maxHeartbeats 1000000
namespace K36
open PySem WL KT
theorem T__law_system : T "_law_system" = some ⟨6, 16, a__law_system⟩ := by rfl
theorem low_ints (n : Nat) (L : List Int) : lows n (L.map .int) = true := lows_map _ (fun _ => rfl) _
def handD (r : List Int) : D := .tup (r.map .int)
theorem low_handD (n : Nat) (r : List Int) : (handD r).low n = true := low_ints n r
theorem low_hands (n : Nat) (L : List (List Int)) : lows n (L.map handD) = true := lows_map _ (low_handD n) _
theorem low_wo (n : Nat) (w : Wo) : w.d.low n = true := by simp [Wo.d, low_ints]
theorem low_works (n : Nat) (L : List Wo) : lows n (L.map Wo.d) = true := lows_map _ (low_wo n) _
theorem low_sysD (n : Nat) (days : Int) (hands : List (List Int)) (works : List Wo) : (sysD days hands works (.tup [])).low n = true := by
  simp only [sysD, low_tup, lows_cons, low_int, lows_nil, Bool.and_true, Bool.true_and, low_works]
  exact low_hands n hands
theorem ups_at {n i : Nat} {x : Int} (h : (ups n)[i]? = some x) : x = i := by
  obtain ⟨hl, e⟩ := List.getElem?_eq_some_iff.mp h
  rw [← e]
  simp [ups]
theorem ups0 : ups 0 = [] := rfl
theorem compL0 (xs : List D) (turn : D → Sto → Res (Option D)) (S : Sto) : compL (Wk.held ⟨xs, []⟩) turn [] S = .ok [] S := by
  simp only [compL]
  rw [if_pos (held_all _ _)]
structure SysOk (days : Int) (hands : List (List Int)) (works : List Wo) : Prop where
  d0 : 1 ≤ days
  d1 : days ≤ 8
  h0 : 1 ≤ hands.length
  h1 : hands.length ≤ 2
  hr : ∀ r ∈ hands, r.length ≤ 100
  w1 : works.length ≤ 10
  wk : ∀ (i : Nat) (w : Wo), works[i]? = some w → w.ok i hands.length 5
theorem tup_len (S : Sto) (L : List D) : bLen [.tup L] S = .ok (.int L.length) S := rfl
theorem system_ok (k : Nat) {d : Dk} {b : Nat} (h : d.ok b) (hb : b + 20000 ≤ 1000000000) :
    ∃ (days : Int) (hands : List (List Int)) (works : List Wo) (d' : Dk), SysOk days hands works ∧ d'.ok (b + 20000) ∧ ∀ G, callF pg T (k + 4) "_law_system" [.ref 3, .int 8, .int 2, .int 10, .int 5, .int 0] (d.sto ++ G) = .ok (sysD days hands works (.tup [])) (d'.sto ++ G) := by
  obtain ⟨n1, d1, p1, o1, e1⟩ := next_ok (k + 2) h (by omega)
  obtain ⟨n2, d2, p2, o2, e2⟩ := next_ok (k + 2) o1 (by omega)
  obtain ⟨m, em, hm⟩ := three_at (D.int 100) (.int 6) (.int 3) (i := n2 % 3) (by omega) (by omega)
  obtain ⟨mi, rfl, hmi⟩ : ∃ mi : Int, m = .int mi ∧ 0 < mi := by
    rcases hm with rfl | rfl | rfl
    · exact ⟨_, rfl, by decide⟩
    · exact ⟨_, rfl, by decide⟩
    · exact ⟨_, rfl, by decide⟩
  obtain ⟨n3, d3, p3, o3, e3⟩ := next_ok (k + 2) o2 (by omega)
  obtain ⟨days, hdays⟩ : ∃ days, days = 1 + n1 % 8 := ⟨_, rfl⟩
  obtain ⟨hn, hhn⟩ : ∃ hn, hn = 1 + n3 % 2 := ⟨_, rfl⟩
  obtain ⟨hands, d4, i1, i2, o4, e4⟩ := comp_map handD (fun _ r => r.length ≤ 100) (hold := Wk.held ⟨(ups hn.toNat).map .int, []⟩) (held_all _) (turn := compT pg (callF pg T (k + 3)) [some (.ref 3), some (.int 8), some (.int 2), some (.int 10), some (.int 5), some (.int 0), some (.int days), some (.int mi), none, none, none, none, none, none, none, none] (.call "_law_rows_of" (.cons (.loc 0) (.cons (.bin .sub (.loc 6) (.lit (.int 1))) (.cons (.loc 7) .nil)))) (.nm 13) .yes [13]) 100 (ups hn.toNat) d3 _ o3 (by rw [ups_len]; omega) (fun x hx d b hd hb => by
    obtain ⟨L, d', l1, l2, o, e⟩ := rows_of_ok (k + 1) (b := b) hd (high := days - 1) (much := mi) (by omega) (by omega) hmi (by omega)
    refine ⟨L, d', l2, o, fun G => ?_⟩
    simp [compT, putT, putN, kill, e, handD])
  rw [ups_len] at i1 o4
  obtain ⟨n5, d5, p5, o5, e5⟩ := next_ok (k + 2) o4 (by omega)
  obtain ⟨n6, d6, p6, o6, e6⟩ := next_ok (k + 2) o5 (by omega)
  obtain ⟨wn, hwn⟩ : ∃ wn, wn = n5 % 11 := ⟨_, rfl⟩
  obtain ⟨len, hlen, l0, l1⟩ : ∃ len : Int, L2.atI [D.int (if days < 5 then days else 5), .int 5] (if n6 % 9 = 4 then 1 else 0) = some (.int len) ∧ 0 < len ∧ len ≤ 5 := by
    by_cases c : n6 % 9 = 4
    · rw [if_pos c]; exact ⟨_, atI_1 _ _ _, by decide, by decide⟩
    · rw [if_neg c]; exact ⟨_, atI_0 _ _, by split <;> omega, by split <;> omega⟩
  obtain ⟨works, d7, j1, j2, o7, e7⟩ := comp_map Wo.d (fun x w => w.ok x hands.length 5) (hold := Wk.held ⟨(ups wn.toNat).map .int, []⟩) (held_all _) (turn := compT pg (callF pg T (k + 3)) [some (.ref 3), some (.int 8), some (.int 2), some (.int 10), some (.int 5), some (.int 0), some (.int days), some (.int mi), some (.tup (hands.map handD)), some (.int wn), some (.int len), none, none, none, none, none] (.call "_law_work" (.cons (.loc 0) (.cons (.loc 14) (.cons (.bif .len (.cons (.loc 8) .nil)) (.cons (.loc 10) .nil))))) (.nm 14) .yes [14]) 1000 (ups wn.toNat) d6 _ o6 (by rw [ups_len]; omega) (fun x hx d b hd hb => by
    have hx' := ups_mem.mp hx
    obtain ⟨w, d', wo, o, e⟩ := work_ok k hd (number := x) (hands := hands.length) (len := len) (by omega) (by omega) (by omega) (by omega) l0 (by omega)
    refine ⟨w, d', ⟨wo.l0, by have := wo.l1; omega, wo.ah, wo.ab, wo.n1, wo.n2⟩, o, fun G => ?_⟩
    simp [compT, putT, putN, kill, bifD, tup_len, e])
  rw [ups_len] at j1 o7
  obtain ⟨n8, d8, p8, o8, e8⟩ := next_ok (k + 2) o7 (by omega)
  refine ⟨days, hands, works, d8, ⟨by omega, by omega, by omega, by omega, fun r hr => ?_, by omega, fun i w hw => ?_⟩, o8.mono (by omega), fun G => ?_⟩
  · obtain ⟨i, hi⟩ := List.mem_iff_getElem?.mp hr
    obtain ⟨x, _, q⟩ := i2 i r hi
    exact q
  · obtain ⟨x, hx, q⟩ := j2 i w hw
    have : x = (i : Int) := ups_at hx
    rw [this] at q
    exact q
  · have three : (3 : Nat) ≤ sizeLine := big_of (by decide)
    have two : (2 : Nat) ≤ sizeLine := big_of (by decide)
    have four : (4 : Nat) ≤ sizeLine := big_of (by decide)
    have zero : (0 : Nat) ≤ sizeLine := big_of (by decide)
    have hz1 : hands.length ≤ sizeLine := big_of (by omega)
    have hz2 : works.length ≤ sizeLine := big_of (by omega)
    have hI : ∀ (b : Bool) (S : Sto), bInt [.bl b] S = .ok (.int (if b = true then 1 else 0)) S := fun _ _ => rfl
    have hM : ∀ (i j : Int) (S : Sto), bTwo (fun i j => if j < i then j else i) [.int i, .int j] S = .ok (.int (if j < i then j else i)) S := fun _ _ _ => rfl
    have hmul : ∀ (j : Int) (S : Sto), binD .mul (.int 0) (.int j) S = .ok (.int 0) S := fun j S => by
      simp only [binD]
      rw [if_pos (.inl (by decide)), Int.zero_mul]
    have hr0 : rangeD 0 0 = [] := rfl
    have m8 := fun (S : Sto) i => md S i 8 (by decide)
    have m3 := fun (S : Sto) i => md S i 3 (by decide)
    have m2 := fun (S : Sto) i => md S i 2 (by decide)
    have m11 := fun (S : Sto) i => md S i 11 (by decide)
    have m9 := fun (S : Sto) i => md S i 9 (by decide)
    have m1 := fun (S : Sto) i => md S i 1 (by decide)
    rw [callF, T__law_system]
    simp [a__law_system, WL.start, e1, e2, e3, putT, putN, m8, m3, m2, three, ← hdays, ← hhn, idx_new, em, evE_comp, rangeD_ups, e4, hz1, bifD, tupN, gc_dk2, low_hands, show hn ≤ 1000000 by omega, show (-4611686018427387904 : Int) ≤ hn by omega]
    simp [e5, m11, ← hwn, hI, hM, e6, m9, two, idx_new, hlen]
    simp [gc_dk2, e7, hz2, tupN, low_works, show wn ≤ 1000000 by omega, show (-4611686018427387904 : Int) ≤ wn by omega, e8, m1, hI, hmul, ups0, compL0, zero, four, bifD, sysD]
    exact ⟨fun _ _ => rfl, gc_dk2 _ _ _ _ _ (by simp [low_works, low_hands])⟩
end K36
end
section
set_option Elab.async false
set_option linter.all false
set_option maxRecDepth 100000
set_option maxHeartbeats 1000000
namespace K36
open PySem WL KT
theorem T__law_ways : T "_law_ways" = some ⟨2, 12, a__law_ways⟩ := by rfl
theorem T__law_whole : T "_law_whole" = some ⟨1, 2, a__law_whole⟩ := by rfl
theorem T__law_put : T "_law_put" = some ⟨3, 3, a__law_put⟩ := by rfl
theorem T__law_same : T "_law_same" = some ⟨2, 2, a__law_same⟩ := by rfl
variable {days : Int} {hands : List (List Int)} {works : List Wo}
/-- the ways' own names -/
def roW (s : D) (w : Int) (l : Nat) (st : Option D) (days : Int) (hands : List (List Int)) (W : D) (wo : Wo) (h : Option D) : Ro :=
  [some s, some (.int w), some (.ref l), st, some (.int days), some (.tup (hands.map handD)), some W, some (.int wo.len), some (.tup (wo.ahead.map .int)), some (.tup (wo.able.map .int)), h, none]
def inB : Sms := .cons (.iff (.val (.cmp .eq (.comp (.loc 11) (.nm 11) (.seq (.idx (.loc 5) (.loc 10))) (.val (.chn .le .lt (.loc 3) (.loc 11) (.bin .add (.loc 3) (.loc 7)))) [11]) (.lst .nil))) (.cons (.ex (.mth .append (.loc 2) (.cons (.tup (.cons (.loc 3) (.cons (.loc 10) .nil))) .nil))) .nil) .nil) .nil
def outB : Sms := .cons (.for_ (.nm 10) (.seq (.loc 9)) inB [10]) .nil
theorem gc_new2 (S : Sto) (a b : O) (ds : List D) (h : lows S.length ds = true) : gc S ds (S ++ [a, b]) = S := gc_app h
theorem inner (k : Nat) (s : D) (w : Int) (W : D) (wo : Wo) (st : Int) (S0 : Sto) {hold : Sto → Prop} (hh : ∀ S, hold S) (hhr : ∀ r ∈ hands, r.length ≤ 100) : ∀ (able : List Int) (row : List (Int × Int)), (∀ x ∈ able, 0 ≤ x ∧ x < hands.length) → row.length + able.length ≤ 5000 →
    ∃ row' : List (Int × Int), row'.length ≤ row.length + able.length ∧
      forL hold [10] (forT pg (callF pg T k) (.nm 10) inB) (able.map .int) (roW s w S0.length (some (.int st)) days hands W wo none) (S0 ++ [.lst (row.map wayD)]) = .ok .nx (roW s w S0.length (some (.int st)) days hands W wo none) (S0 ++ [.lst (row'.map wayD)])
  | [], row, ha, hz => ⟨row, by omega, by
      simp only [List.map_nil, forL]
      rw [if_pos (hh _)]⟩
  | x :: able, row, ha, hz => by
    simp only [List.length_cons] at hz ⊢
    have hx := ha x List.mem_cons_self
    have hlt : x.toNat < hands.length := by omega
    obtain ⟨r, hr⟩ : ∃ r, hands[x.toNat]? = some r := ⟨_, List.getElem?_eq_getElem hlt⟩
    have hrl := hhr r (List.mem_of_getElem? hr)
    have hat : L2.atI (hands.map handD) x = some (handD r) := atI_nn hx.1 (by simp [hr])
    generalize hS : S0 ++ [O.lst (row.map wayD)] = S
    have hl : S[S0.length]? = some (.lst (row.map wayD)) := by rw [← hS]; simp
    have hlen : S0.length < S.length := (List.getElem?_eq_some_iff.mp hl).1
    have e := compL_pure (hold := Wk.held ⟨r.map .int, []⟩) (S := S) (xs := r) D.int (fun d => decide (st ≤ d) && decide (d < st + wo.len)) D.int
      (turn := compT pg (callF pg T k) (roW s w S0.length (some (.int st)) days hands W wo (some (.int x))) (.loc 11) (.nm 11) (.val (.chn .le .lt (.loc 3) (.loc 11) (.bin .add (.loc 3) (.loc 7)))) [11]) (by simp) (fun d _ => by
        by_cases h1 : st ≤ d
        · by_cases h2 : d < st + wo.len <;> simp [compT, putT, putN, kill, roW, gc_self, h1, h2]
        · simp [compT, putT, putN, kill, roW, gc_self, h1])
    generalize hq : r.filter (fun d => decide (st ≤ d) && decide (d < st + wo.len)) = q at e
    have hql : q.length ≤ sizeLine := big_of (by have := List.length_filter_le (fun d => decide (st ≤ d) && decide (d < st + wo.len)) r; rw [hq] at this; omega)
    have heq : cmpD .eq (.ref S.length) (.ref (S.length + 1)) (S ++ [O.lst (q.map .int), O.lst []]) = some (q.map D.int).isEmpty := eq_nil (by simp) (pds_ints _ 59 q) (by simp)
    have ga : gc S [] (S ++ [O.lst (q.map .int), O.lst []]) = S := gc_app rfl
    have two : (2 : Nat) ≤ sizeLine := big_of (by decide)
    have zero : (0 : Nat) ≤ sizeLine := big_of (by decide)
    have hrz : (row.map wayD).length < sizeLine := by rw [sizeLine_eq]; simp; omega
    have hi : isL S (.ref S0.length) = true := by simp only [isL, hl]
    have hm : ∀ y, mthD .append (.ref S0.length) [y] S = .ok .non (S.set S0.length (.lst (row.map wayD ++ [y]))) := fun y => by
      simp only [mthD, mAppend, hl]
      rw [if_pos hrz]
    have step : ∃ row1 : List (Int × Int), row1.length ≤ row.length + 1 ∧ forT pg (callF pg T k) (.nm 10) inB (.int x) (roW s w S0.length (some (.int st)) days hands W wo none) S = .ok .nx (roW s w S0.length (some (.int st)) days hands W wo (some (.int x))) (S0 ++ [.lst (row1.map wayD)]) := by
      cases hqe : (q.map D.int).isEmpty with
      | true =>
        rw [hqe] at heq
        refine ⟨row ++ [(st, x)], by simp, ?_⟩
        simp only [roW] at e
        simp [forT, putT, putN, roW, inB, evE_comp, hat, handD, e, hql, heq, ga, zero, two, hi, hm, gc_len]
        rw [← hS]
        simp [wayD]
      | false =>
        rw [hqe] at heq
        refine ⟨row, by omega, ?_⟩
        simp only [roW] at e
        simp [forT, putT, putN, roW, inB, evE_comp, hat, handD, e, hql, heq, ga, zero, two, hi, hm, gc_len]
        exact hS.symm
    obtain ⟨row1, l1, e1⟩ := step
    obtain ⟨row2, l2, e2⟩ := inner k s w W wo st S0 hh hhr able row1 (fun y hy => ha y (List.mem_cons_of_mem _ hy)) (by omega)
    refine ⟨row2, by omega, ?_⟩
    simp only [List.map_cons, forL]
    rw [if_pos (hh _), e1]
    simp only
    have hk : kill [10] (roW s w S0.length (some (.int st)) days hands W wo (some (.int x))) = roW s w S0.length (some (.int st)) days hands W wo none := rfl
    rw [hk]
    exact e2
theorem outer (k : Nat) (s : D) (w : Int) (W : D) (wo : Wo) (S0 : Sto) {hold : Sto → Prop} (hh : ∀ S, hold S) (hhr : ∀ r ∈ hands, r.length ≤ 100) (ha : ∀ x ∈ wo.able, 0 ≤ x ∧ x < hands.length) (hn : wo.able.length ≤ 100) : ∀ (xs : List Int) (row : List (Int × Int)), row.length + 100 * xs.length ≤ 4000 →
    ∃ row' : List (Int × Int), row'.length ≤ row.length + 100 * xs.length ∧
      forL hold [3, 10] (forT pg (callF pg T k) (.nm 3) outB) (xs.map .int) (roW s w S0.length none days hands W wo none) (S0 ++ [.lst (row.map wayD)]) = .ok .nx (roW s w S0.length none days hands W wo none) (S0 ++ [.lst (row'.map wayD)])
  | [], row, hz => ⟨row, by omega, by
      simp only [List.map_nil, forL]
      rw [if_pos (hh _)]⟩
  | x :: xs, row, hz => by
    simp only [List.length_cons] at hz ⊢
    obtain ⟨row1, l1, e1⟩ := inner (days := days) k s w W wo x S0 (hold := Wk.held ⟨wo.able.map .int, []⟩) (held_all _) hhr wo.able row ha (by omega)
    obtain ⟨row2, l2, e2⟩ := outer k s w W wo S0 hh hhr ha hn xs row1 (by omega)
    refine ⟨row2, by omega, ?_⟩
    have step : forT pg (callF pg T k) (.nm 3) outB (.int x) (roW s w S0.length none days hands W wo none) (S0 ++ [.lst (row.map wayD)]) = .ok .nx (roW s w S0.length (some (.int x)) days hands W wo none) (S0 ++ [.lst (row1.map wayD)]) := by
      have e1' := e1
      simp only [roW] at e1'
      simp [forT, putT, putN, roW, outB, evS_for, e1']
    simp only [List.map_cons, forL]
    rw [if_pos (hh _), step]
    simp only
    have hk : kill [3, 10] (roW s w S0.length (some (.int x)) days hands W wo none) = roW s w S0.length none days hands W wo none := rfl
    rw [hk]
    exact e2
theorem cut3 (a b c d : D) : cutL [a, b, c, d] none (some 3) = [a, b, c] := by rfl
theorem low_rowD (n : Nat) (r : List (Int × Int)) : (rowD r).low n = true := by
  simp only [rowD, low_tup]
  exact lows_map _ (fun _ => rfl) _
theorem ways_ok (k : Nat) (hs : SysOk days hands works) {w : Nat} {wo : Wo} (hw : works[w]? = some wo) (S : Sto) :
    ∃ row : List (Int × Int), row.length ≤ 5000 ∧ callF pg T (k + 1) "_law_ways" [sysD days hands works (.tup []), .int w] S = .ok (rowD row) S := by
  have q := hs.wk w wo hw
  have l0 := q.l0
  have l1 := q.l1
  have d0 := hs.d0
  have d1 := hs.d1
  obtain ⟨row, hl, e⟩ := outer (days := days) (hands := hands) k (sysD days hands works (.tup [])) w (.tup (works.map Wo.d)) wo S (hold := Wk.held ⟨(ups (days - wo.len + 1).toNat).map .int, []⟩) (held_all _) hs.hr q.ab q.n2 (ups (days - wo.len + 1).toNat) [] (by rw [ups_len]; simp only [List.length_nil]; omega)
  rw [ups_len] at hl
  simp only [List.length_nil] at hl
  refine ⟨row, by omega, ?_⟩
  have zero : (0 : Nat) ≤ sizeLine := big_of (by decide)
  have ht : bTup [.ref S.length] (S ++ [.lst (row.map wayD)]) = .ok (.tup (row.map wayD)) (S ++ [.lst (row.map wayD)]) := by
    simp [bTup, itemsOf]
  have ga : gc S [.tup (row.map wayD)] (S ++ [.lst (row.map wayD)]) = S := gc_app (by simp; exact lows_map _ (fun _ => rfl) _)
  have hcut : ∀ S, cutD S (sysD days hands works (.tup [])) none (some 3) = .ok (.tup [.int days, .tup (hands.map handD), .tup (works.map Wo.d)]) S := fun _ => rfl
  have hwd : L2.atI (works.map Wo.d) (w : Int) = some (.tup [.int wo.len, .tup (wo.ahead.map .int), .tup (wo.able.map .int)]) := work_at hw
  generalize sysD days hands works (.tup []) = s at e hcut
  have e' := e
  simp only [roW, List.map_nil] at e'
  have gk : gc S [.ref S.length] (S ++ [.lst []]) = S ++ [.lst []] := gc_keep (by simp)
  have hz0 : -4611686018427387904 ≤ days - wo.len + 1 := by omega
  have hz1 : days - wo.len + 1 ≤ 1000000 := by omega
  rw [callF, T__law_ways]
  simp [a__law_ways, WL.start, hcut, partD, putT, putN, putNs, hwd, gc_self, zero, gk, evS_for, hz0, hz1, rangeD_ups]
  rw [show (forT pg (callF pg T k) (.nm 3) (.cons (.for_ (.nm 10) (.seq (.loc 9)) (.cons (.iff (.val (.cmp .eq (.comp (.loc 11) (.nm 11) (.seq (.idx (.loc 5) (.loc 10))) (.val (.chn .le .lt (.loc 3) (.loc 11) (.bin .add (.loc 3) (.loc 7)))) [11]) (.lst .nil))) (.cons (.ex (.mth .append (.loc 2) (.cons (.tup (.cons (.loc 3) (.cons (.loc 10) .nil))) .nil))) .nil) .nil) .nil) [10]) .nil)) = forT pg (callF pg T k) (.nm 3) outB from rfl]
  rw [e']
  simp [bifD, ht, ga, rowD]
theorem comp_ex {α : Type} (f : α → D) (P : α → Prop) {hold : Sto → Prop} {S : Sto} (hh : hold S) {turn : D → Sto → Res (Option D)} : ∀ (xs : List Int), (∀ x ∈ xs, ∃ v, P v ∧ turn (.int x) S = .ok (some (f v)) S) →
    ∃ vs : List α, vs.length = xs.length ∧ (∀ v ∈ vs, P v) ∧ compL hold turn (xs.map .int) S = .ok (vs.map f) S
  | [], h => ⟨[], rfl, fun v hv => absurd hv List.not_mem_nil, by
      simp only [List.map_nil, compL]
      rw [if_pos hh]⟩
  | x :: xs, h => by
    obtain ⟨v, hv, e⟩ := h x List.mem_cons_self
    obtain ⟨vs, l, p, e2⟩ := comp_ex f P hh xs fun y hy => h y (List.mem_cons_of_mem _ hy)
    refine ⟨v :: vs, by simp [l], fun u hu => ?_, ?_⟩
    · rcases List.mem_cons.mp hu with rfl | h
      · exact hv
      · exact p u h
    · simp only [List.map_cons, compL]
      rw [if_pos hh, e]
      simp only
      rw [e2]
theorem low_rows (n : Nat) (L : List (List (Int × Int))) : lows n (L.map rowD) = true := lows_map _ (low_rowD n) _
theorem whole_ok (k : Nat) (hs : SysOk days hands works) (S : Sto) :
    ∃ rows : List (List (Int × Int)), rows.length = works.length ∧ (∀ r ∈ rows, r.length ≤ 5000) ∧ callF pg T (k + 2) "_law_whole" [sysD days hands works (.tup [])] S = .ok (fieldD rows) S := by
  have w1 := hs.w1
  obtain ⟨rows, l, p, e⟩ := comp_ex rowD (fun r => r.length ≤ 5000) (hold := Wk.held ⟨(ups works.length).map .int, []⟩) (S := S) (held_all _ S) (turn := compT pg (callF pg T (k + 1)) [some (sysD days hands works (.tup [])), none] (.call "_law_ways" (.cons (.loc 0) (.cons (.loc 1) .nil))) (.nm 1) .yes [1]) (ups works.length) (fun x hx => by
    have hx' := ups_mem.mp hx
    obtain ⟨w, rfl⟩ : ∃ w : Nat, x = w := ⟨x.toNat, by omega⟩
    have hlt : w < works.length := by omega
    obtain ⟨row, h1, h2⟩ := ways_ok k hs (List.getElem?_eq_getElem hlt) S
    refine ⟨row, h1, ?_⟩
    simp [compT, putT, putN, kill, h2, gc_self])
  rw [ups_len] at l
  refine ⟨rows, l, p, ?_⟩
  have hz : rows.length ≤ sizeLine := big_of (by omega)
  have ht : bTup [.ref S.length] (S ++ [.lst (rows.map rowD)]) = .ok (.tup (rows.map rowD)) (S ++ [.lst (rows.map rowD)]) := by
    simp [bTup, itemsOf]
  have ga : gc S [.tup (rows.map rowD)] (S ++ [.lst (rows.map rowD)]) = S := gc_app (by simp [low_rows])
  have hl2 : ∀ S, bLen [.tup (works.map Wo.d)] S = .ok (.int works.length) S := fun _ => by simp [tup_len]
  rw [callF, T__law_whole]
  simp [a__law_whole, WL.start, evE_comp, bifD, hl2, rangeD_ups, e, hz, ht, ga, fieldD, show (works.length : Int) ≤ 1000000 by omega, show (-4611686018427387904 : Int) ≤ works.length by omega]
theorem cut_lo (L : List D) (i : Nat) (h : i ≤ L.length) : cutL L none (some (i : Int)) = L.take i := by
  unfold cutL
  rw [HT.sIx_none, HT.sIx_nat]
  simp
theorem cut_hi (L : List D) (i : Nat) (h : i ≤ L.length) : cutL L (some (i : Int)) none = L.drop i := by
  unfold cutL
  rw [HT.sIx_none, HT.sIx_nat, Nat.min_eq_left h]
  exact List.take_of_length_le (by simp)
theorem put_ok (k : Nat) {rows : List (List (Int × Int))} (hl : rows.length ≤ 100) {i : Int} (h0 : 0 ≤ i) (h1 : i < rows.length) (S : Sto) :
    callF pg T (k + 1) "_law_put" [fieldD rows, .int i, .tup []] S = .ok (fieldD (rows.set i.toNat [])) S := by
  obtain ⟨j, rfl⟩ : ∃ j : Nat, i = j := ⟨i.toNat, by omega⟩
  have hj : j < rows.length := by omega
  have c1 : cutL (rows.map rowD) none (some (j : Int)) = (rows.take j).map rowD := by rw [cut_lo _ _ (by simp; omega), List.map_take]
  have c2 : cutL (rows.map rowD) (some ((j : Int) + 1)) none = (rows.drop (j + 1)).map rowD := by
    have := cut_hi (rows.map rowD) (j + 1) (by simp; omega)
    rw [List.map_drop, ← this]
    rfl
  have big : ∀ n : Nat, n ≤ 1000 → n ≤ sizeLine := fun n h => big_of h
  have e : fieldD (rows.set j []) = .tup ((rows.take j).map rowD ++ [.tup []] ++ (rows.drop (j + 1)).map rowD) := by
    rw [List.set_eq_take_append_cons_drop, if_pos hj]
    simp [fieldD, rowD]
  have one : (1 : Nat) ≤ sizeLine := big_of (by decide)
  have b1 : binD .add (.tup ((rows.take j).map rowD)) (.tup [.tup []]) S = .ok (.tup ((rows.take j).map rowD ++ [.tup []])) S := by
    simp only [binD]
    rw [if_pos (big _ (by simp; omega))]
  have b2 : binD .add (.tup ((rows.take j).map rowD ++ [.tup []])) (.tup ((rows.drop (j + 1)).map rowD)) S = .ok (.tup ((rows.take j).map rowD ++ [.tup []] ++ (rows.drop (j + 1)).map rowD)) S := by
    simp only [binD]
    rw [if_pos (big _ (by simp; omega))]
  rw [callF, T__law_put, Int.toNat_natCast, e]
  simp only [List.append_assoc] at b2 ⊢
  simp [a__law_put, WL.start, fieldD, cutD, partD, c1, c2, one, b1, b2, gc_self, -List.map_take, -List.map_drop, -List.append_assoc]
end K36
end
section
set_option Elab.async false
set_option linter.all false
set_option maxRecDepth 100000
set_option maxHeartbeats 1000000
namespace K36
open PySem WL KT
theorem T__law_stands : T "_law_stands" = some ⟨3, 5, a__law_stands⟩ := by rfl
theorem T__law_order : T "_law_order" = some ⟨2, 6, a__law_order⟩ := by rfl
variable {days : Int} {hands : List (List Int)} {works : List Wo}
def kn (known : List Nat) : List Int := known.map fun (n : Nat) => (n : Int)
theorem kn_contains (known : List Nat) (w : Nat) : (kn known).contains (w : Int) = known.contains w := by
  unfold kn
  induction known with
  | nil => rfl
  | cons a l ih =>
    simp only [List.map_cons, List.contains_cons, ih]
    have e : ((w : Int) == (a : Int)) = (w == a) := by
      by_cases h : w = a
      · subst h; simp
      · have h2 : (w : Int) ≠ a := by omega
        rw [beq_eq_false_iff_ne.mpr h, beq_eq_false_iff_ne.mpr h2]
    rw [e]
theorem nodup_len : ∀ (L M : List Nat), L.Nodup → (∀ x ∈ L, x ∈ M) → L.length ≤ M.length
  | [], M, _, _ => Nat.zero_le _
  | a :: L, M, nd, h => by
    have nd' := List.nodup_cons.mp nd
    have ha := h a List.mem_cons_self
    have ih := nodup_len L (M.erase a) nd'.2 (fun x hx => (List.mem_erase_of_ne (fun e : x = a => nd'.1 (by rw [← e]; exact hx))).mpr (h x (List.mem_cons_of_mem _ hx)))
    have := List.length_erase_of_mem ha
    have := List.length_pos_of_mem ha
    simp only [List.length_cons]
    omega
def stB (works : List Wo) (known : List Nat) (w : Nat) : Bool := match works[w]? with
  | some wo => !((kn known).contains (w : Int)) && decide ((wo.ahead.filter ((kn known).contains)).length = wo.ahead.length)
  | none => false
theorem stands_ok (k : Nat) (hs : SysOk days hands works) (known : List Nat) {w : Nat} {wo : Wo} (hw : works[w]? = some wo) {S : Sto} {l : Nat} (hl : S[l]? = some (.lst ((kn known).map .int))) :
    callF pg T (k + 1) "_law_stands" [sysD days hands works (.tup []), .ref l, .int w] S = .ok (.bl (stB works known w)) S := by
  have q := hs.wk w wo hw
  have hin : ∀ x : Int, cmpD .in_ (.int x) (.ref l) S = some ((kn known).contains x) := fun x => by
    simp only [cmpD, itemsOf, hl]
    exact mem_ints x _
  have hnin : ∀ x : Int, cmpD .nin (.int x) (.ref l) S = some (!(kn known).contains x) := fun x => by
    simp only [cmpD, itemsOf, hl]
    show (memD (.int x) _).map (!·) = _
    rw [mem_ints]
    rfl
  have e := compL_pure (hold := Wk.held ⟨wo.ahead.map .int, []⟩) (S := S) (xs := wo.ahead) D.int ((kn known).contains) D.int
    (turn := compT pg (callF pg T k) [some (sysD days hands works (.tup [])), some (.ref l), some (.int w), some (.tup (wo.ahead.map .int)), none] (.loc 4) (.nm 4) (.val (.cmp .in_ (.loc 4) (.loc 1))) [4]) (by simp) (fun x _ => by
      simp only [compT]
      cases hx : (kn known).contains x <;> simp [putT, putN, kill, hin, hx, gc_self, -List.contains_eq_mem])
  have hz : (wo.ahead.filter ((kn known).contains)).length ≤ sizeLine := big_of (by have := List.length_filter_le ((kn known).contains) wo.ahead; have := q.n1; omega)
  have hwd : idxD S wo.d (.int 1) = some (.tup (wo.ahead.map .int)) := wo_1 S wo
  unfold stB
  rw [hw]
  simp only
  generalize hf : wo.ahead.filter ((kn known).contains) = f at e hz ⊢
  have hlen : bLen [.ref S.length] (S ++ [.lst (f.map .int)]) = .ok (.int f.length) (S ++ [.lst (f.map .int)]) := by simp [bLen, itemsOf]
  have hl2 : ∀ S, bLen [.tup (wo.ahead.map .int)] S = .ok (.int wo.ahead.length) S := fun _ => by simp [tup_len]
  have ga : ∀ b, gc S [.bl b] (S ++ [.lst (f.map .int)]) = S := fun b => gc_app rfl
  rw [callF, T__law_stands]
  cases hc : (kn known).contains (w : Int) with
  | true => simp [a__law_stands, WL.start, work_at hw, putT, putN, gc_self, hnin, hc, -List.contains_eq_mem]
  | false => simp [a__law_stands, WL.start, work_at hw, putT, putN, gc_self, hnin, hc, evE_comp, e, hz, bifD, hlen, hl2, ga, -List.contains_eq_mem]
             omega
/-- some work stands -/
theorem stands_ex (hs : SysOk days hands works) {known : List Nat} (hk : known.length < works.length) (nd : known.Nodup) (hb : ∀ w ∈ known, w < works.length) : ∃ w, w < works.length ∧ stB works known w = true := by
  have ex : ∃ w, w < works.length ∧ w ∉ known := by
    by_cases h : ∃ w, w < works.length ∧ w ∉ known
    · exact h
    · exfalso
      have hsub : List.range works.length ⊆ known := fun w hw => by
        by_cases c : w ∈ known
        · exact c
        · exact absurd ⟨w, List.mem_range.mp hw, c⟩ h
      have := nodup_len _ _ List.nodup_range hsub
      rw [List.length_range] at this
      omega
  have least : ∀ n, (∃ w, w ≤ n ∧ w < works.length ∧ w ∉ known) → ∃ w, w < works.length ∧ w ∉ known ∧ ∀ v, v < w → v ∈ known := by
    intro n
    induction n with
    | zero =>
      rintro ⟨w, h0, h1, h2⟩
      exact ⟨w, h1, h2, fun v hv => absurd hv (by omega)⟩
    | succ n ih =>
      rintro ⟨w, h0, h1, h2⟩
      by_cases c : ∃ v, v < w ∧ v ∉ known
      · obtain ⟨v, v1, v2⟩ := c
        exact ih ⟨v, by omega, by omega, v2⟩
      · refine ⟨w, h1, h2, fun v hv => ?_⟩
        by_cases d : v ∈ known
        · exact d
        · exact absurd ⟨v, hv, d⟩ c
  obtain ⟨w0, a1, a2⟩ := ex
  obtain ⟨w, b1, b2, b3⟩ := least w0 ⟨w0, Nat.le_refl _, a1, a2⟩
  refine ⟨w, b1, ?_⟩
  unfold stB
  have hw := List.getElem?_eq_getElem b1
  rw [hw]
  have q := hs.wk w _ hw
  simp only [Bool.and_eq_true, decide_eq_true_eq]
  refine ⟨?_, ?_⟩
  · rw [kn_contains]
    simpa using b2
  · rw [List.filter_eq_self.mpr]
    intro x hx
    have := q.ah x hx
    have e : x = ((x.toNat : Nat) : Int) := by omega
    rw [e, kn_contains]
    simpa using b3 x.toNat (by omega)
noncomputable def whT (P : Pg) (call : Str → List D → Sto → Res D) (c : Tx) (b : Sms) (kl : List Nat) : Ro → Sto → Wh := fun ρ S => match evT P call c ρ S with
      | .ok true S1 => match evSs P call b ρ (gc S [] S1) with
        | .ok .nx ρ1 S2 => .on (kill kl ρ1) S2
        | .ok .ct ρ1 S2 => .on (kill kl ρ1) S2
        | .ok .bk ρ1 S2 => .out (.ok .nx (kill kl ρ1) S2)
        | r => .out r
      | .ok false S1 => .out (.ok .nx ρ (gc S [] S1))
      | .exc c fs S1 => .out (.exc c fs ρ S1)
      | .bad => .out .bad
theorem evS_whl (P : Pg) (call : Str → List D → Sto → Res D) (c : Tx) (b : Sms) (kl : List Nat) (ρ : Ro) (S : Sto) : evS P call (.whl c b kl) ρ S = whL (whT P call c b kl) ρ S := by
  simp only [evS]
  rfl
def ordB : Sms := .cons (.asg (.nm 3) (.call "_law_next" (.cons (.loc 0) .nil))) (.cons (.asg (.nm 4) (.comp (.loc 5) (.nm 5) (.rng1 (.bif .len (.cons (.idx (.loc 1) (.lit (.int 2))) .nil))) (.val (.call "_law_stands" (.cons (.loc 1) (.cons (.loc 2) (.cons (.loc 5) .nil))))) [5])) (.cons (.ex (.mth .append (.loc 2) (.cons (.idx (.loc 4) (.bin .mod (.loc 3) (.bif .len (.cons (.loc 4) .nil)))) .nil))) .nil))
def ordC : Tx := .val (.cmp .lt (.bif .len (.cons (.loc 2) .nil)) (.bif .len (.cons (.idx (.loc 1) (.lit (.int 2))) .nil)))
def roR (s : D) (dr fr : Option D) : Ro := [some (.ref 3), some s, some (.ref 4), dr, fr, none]
theorem condO (k : Nat) (hs : SysOk days hands works) (known : List Nat) (d : Dk) (G : Sto) : evT pg (callF pg T k) ordC (roR (sysD days hands works (.tup [])) none none) (d.sto ++ (.lst ((kn known).map .int) :: G)) = .ok (decide (known.length < works.length)) (d.sto ++ (.lst ((kn known).map .int) :: G)) := by
  have l4 : bLen [.ref 4] (d.sto ++ (.lst ((kn known).map .int) :: G)) = .ok (.int known.length) (d.sto ++ (.lst ((kn known).map .int) :: G)) := by
    simp [bLen, itemsOf, Dk.sto, kn]
  have hl2 : ∀ S, bLen [.tup (works.map Wo.d)] S = .ok (.int works.length) S := fun _ => by simp [tup_len]
  simp [ordC, roR, bifD, l4, hl2]
theorem turnO (k : Nat) (hs : SysOk days hands works) {known : List Nat} (hk : known.length < works.length) (nd : known.Nodup) (hb : ∀ w ∈ known, w < works.length) {d : Dk} {b : Nat} (hd : d.ok b) (hbb : b + 1 ≤ 1000000000) (G : Sto) :
    ∃ (w : Nat) (d' : Dk) (G' : Sto), w < works.length ∧ w ∉ known ∧ d'.ok (b + 1) ∧
      whT pg (callF pg T (k + 1)) ordC ordB [3, 4] (roR (sysD days hands works (.tup [])) none none) (d.sto ++ (.lst ((kn known).map .int) :: G)) = .on (roR (sysD days hands works (.tup [])) none none) (d'.sto ++ (.lst ((kn (known ++ [w])).map .int) :: G')) := by
  have w1 := hs.w1
  obtain ⟨n, d1, hn, o1, e1⟩ := next_ok k hd (by omega)
  generalize hS : d1.sto ++ (O.lst ((kn known).map .int) :: G) = S
  have hl : S[4]? = some (.lst ((kn known).map .int)) := by rw [← hS]; rfl
  obtain ⟨free, hfree⟩ : ∃ free, free = (List.range works.length).filter (stB works known) := ⟨_, rfl⟩
  have e := compL_pure (hold := Wk.held ⟨rangeD 0 (works.length : Int), []⟩) (S := S) (xs := List.range works.length) (fun i => D.int (0 + (i : Nat))) (stB works known) (fun i => D.int (i : Nat))
    (turn := compT pg (callF pg T (k + 1)) (roR (sysD days hands works (.tup [])) (some (.int n)) none) (.loc 5) (.nm 5) (.val (.call "_law_stands" (.cons (.loc 1) (.cons (.loc 2) (.cons (.loc 5) .nil))))) [5]) (by simp) (fun i hi => by
      have hlt := List.mem_range.mp hi
      have st := stands_ok k hs known (List.getElem?_eq_getElem hlt) hl
      rw [Int.zero_add]
      cases hq : stB works known i <;> simp [compT, roR, putT, putN, kill, st, hq, gc_self])
  have er : (List.range works.length).map (fun i => D.int (0 + (i : Nat))) = rangeD 0 (works.length : Int) := by simp [rangeD]
  rw [er, ← hfree] at e
  obtain ⟨w0, v1, v2⟩ := stands_ex hs hk nd hb
  have hpos : 0 < free.length := List.length_pos_of_mem (a := w0) (by rw [hfree, List.mem_filter]; exact ⟨List.mem_range.mpr v1, v2⟩)
  have hfl : free.length ≤ 10 := by
    have := List.length_filter_le (stB works known) (List.range works.length)
    rw [← hfree, List.length_range] at this
    omega
  have hi0 := Int.emod_nonneg n (show (free.length : Int) ≠ 0 by omega)
  have hi1 := Int.emod_lt_of_pos n (show (0 : Int) < free.length by omega)
  obtain ⟨w, hw⟩ : ∃ w, free[(n % (free.length : Int)).toNat]? = some w := ⟨_, List.getElem?_eq_getElem (by omega)⟩
  have hwm := List.mem_of_getElem? hw
  rw [hfree, List.mem_filter, List.mem_range] at hwm
  have hat : L2.atI (free.map fun i => D.int (i : Nat)) (n % (free.length : Int)) = some (.int w) := atI_nn hi0 (by simp [hw])
  have hnk : w ∉ known := by
    have q := hwm.2
    unfold stB at q
    rw [List.getElem?_eq_getElem hwm.1] at q
    simp only [Bool.and_eq_true, Bool.not_eq_true', decide_eq_true_eq] at q
    rw [kn_contains] at q
    simpa using q.1
  have hz : free.length ≤ sizeLine := big_of (by omega)
  have hl2 : ∀ S, bLen [.tup (works.map Wo.d)] S = .ok (.int works.length) S := fun _ => by simp [tup_len]
  have hS4 : 4 < S.length := (List.getElem?_eq_some_iff.mp hl).1
  have hSF : (S ++ [O.lst (free.map fun i => D.int (i : Nat))])[4]? = some (.lst ((kn known).map .int)) := by rw [List.getElem?_append_left hS4]; exact hl
  have hi : isL (S ++ [O.lst (free.map fun i => D.int (i : Nat))]) (.ref 4) = true := by simp only [isL, hSF]
  have hlen : bLen [.ref S.length] (S ++ [O.lst (free.map fun i => D.int (i : Nat))]) = .ok (.int free.length) (S ++ [O.lst (free.map fun i => D.int (i : Nat))]) := by simp [bLen, itemsOf]
  have hx : idxD (S ++ [O.lst (free.map fun i => D.int (i : Nat))]) (.ref S.length) (.int (n % (free.length : Int))) = some (.int w) := (idxD_lst _ (ds := free.map fun i => D.int (i : Nat)) (by simp) _).trans hat
  have hkz : ((kn known).map D.int).length < sizeLine := by rw [sizeLine_eq]; simp [kn]; omega
  have hm : mthD .append (.ref 4) [.int w] (S ++ [O.lst (free.map fun i => D.int (i : Nat))]) = .ok .non ((S ++ [O.lst (free.map fun i => D.int (i : Nat))]).set 4 (.lst ((kn known).map .int ++ [.int w]))) := by
    simp only [mthD, mAppend, hSF]
    rw [if_pos hkz]
  have gk : gc S [.ref S.length] (S ++ [O.lst (free.map fun i => D.int (i : Nat))]) = S ++ [O.lst (free.map fun i => D.int (i : Nat))] := gc_keep (by simp)
  have hset : (S ++ [O.lst (free.map fun i => D.int (i : Nat))]).set 4 (.lst ((kn known).map .int ++ [.int w])) = d1.sto ++ (.lst ((kn (known ++ [w])).map .int) :: (G ++ [O.lst (free.map fun i => D.int (i : Nat))])) := by
    rw [← hS]
    simp [Dk.sto, kn]
  have g1 : gc (d.sto ++ (O.lst ((kn known).map .int) :: G)) [.int n] S = S := by rw [← hS]; exact gc_dk d d1 _ _
  refine ⟨w, d1, G ++ [O.lst (free.map fun i => D.int (i : Nat))], hwm.1, hnk, o1, ?_⟩
  have hc := condO (k + 1) hs known d G
  rw [decide_eq_true hk] at hc
  unfold whT
  rw [hc]
  simp only [gc_self]
  have hz1 : (works.length : Int) ≤ 1000000 := by omega
  have hz2 : (-4611686018427387904 : Int) ≤ works.length := by omega
  simp only [roR] at e
  simp [ordB, roR, e1, putT, putN, hS, evE_comp, bifD, hl2, hz1, hz2, e, hz, gk, hi, hlen, md _ _ _ (show (0 : Int) < free.length by omega), hx, hm, gc_len, g1]
  exact ⟨rfl, hset⟩
theorem loopR (k : Nat) (hs : SysOk days hands works) : ∀ (m : Nat) (known : List Nat) (d : Dk) (b : Nat) (G : Sto), known.length + m = works.length → known.Nodup → (∀ w ∈ known, w < works.length) → d.ok b → b + m ≤ 1000000000 →
    ∃ (ord : List Nat) (d' : Dk) (G' : Sto), ord.Nodup ∧ (∀ w ∈ ord, w < works.length) ∧ ord.length = works.length ∧ d'.ok (b + m) ∧
      whL (whT pg (callF pg T (k + 1)) ordC ordB [3, 4]) (roR (sysD days hands works (.tup [])) none none) (d.sto ++ (.lst ((kn known).map .int) :: G)) = .ok .nx (roR (sysD days hands works (.tup [])) none none) (d'.sto ++ (.lst ((kn ord).map .int) :: G'))
  | 0, known, d, b, G, hl, nd, hb, hd, hz => by
    refine ⟨known, d, G, nd, hb, by omega, hd, whL_out ?_⟩
    have hc := condO (k + 1) hs known d G
    rw [decide_eq_false (by omega)] at hc
    unfold whT
    rw [hc]
    simp only [gc_self]
  | m + 1, known, d, b, G, hl, nd, hb, hd, hz => by
    obtain ⟨w, d1, G1, h1, h2, o1, e1⟩ := turnO k hs (by omega) nd hb hd (by omega) G
    obtain ⟨ord, d2, G2, i1, i2, i3, o2, e2⟩ := loopR k hs m (known ++ [w]) d1 (b + 1) G1 (by simp; omega) (by
      rw [List.nodup_append]
      exact ⟨nd, by simp, fun a ha b hb => by
        have : b = w := by simpa using hb
        subst this
        intro e
        exact h2 (e ▸ ha)⟩) (fun v hv => by
      rcases List.mem_append.mp hv with h | h
      · exact hb v h
      · have : v = w := by simpa using h
        omega) o1 (by omega)
    exact ⟨ord, d2, G2, i1, i2, i3, o2.mono (by omega), by rw [whL_on e1, e2]⟩
theorem order_ok (k : Nat) (hs : SysOk days hands works) {d : Dk} {b : Nat} (hd : d.ok b) (hb : b + 100 ≤ 1000000000) :
    ∃ (ord : List Nat) (d' : Dk), ord.Nodup ∧ (∀ w ∈ ord, w < works.length) ∧ ord.length = works.length ∧ d'.ok (b + 100) ∧
      callF pg T (k + 2) "_law_order" [.ref 3, sysD days hands works (.tup [])] d.sto = .ok (.tup (ord.map fun (n : Nat) => D.int n)) d'.sto := by
  have w1 := hs.w1
  obtain ⟨ord, d', G', i1, i2, i3, o, e⟩ := loopR k hs works.length [] d b [] (by simp) List.nodup_nil (by simp) hd (by omega)
  refine ⟨ord, d', i1, i2, i3, o.mono (by omega), ?_⟩
  have em : (kn ord).map D.int = ord.map fun (n : Nat) => D.int n := by simp [kn]
  rw [em] at e
  have gk : gc d.sto [.ref 4] (d.sto ++ [.lst []]) = d.sto ++ [.lst []] := gc_keep (by simp)
  have zero : (0 : Nat) ≤ sizeLine := big_of (by decide)
  have ht : bTup [.ref 4] (d'.sto ++ (.lst (ord.map fun (n : Nat) => D.int n) :: G')) = .ok (.tup (ord.map fun (n : Nat) => D.int n)) (d'.sto ++ (.lst (ord.map fun (n : Nat) => D.int n) :: G')) := by
    simp [bTup, itemsOf, Dk.sto]
  have ga : gc d.sto [.tup (ord.map fun (n : Nat) => D.int n)] (d'.sto ++ (.lst (ord.map fun (n : Nat) => D.int n) :: G')) = d'.sto := by
    have := gc_dk2 d d' [] (.lst (ord.map fun (n : Nat) => D.int n) :: G') [.tup (ord.map fun (n : Nat) => D.int n)] (by simp; exact lows_map _ (fun _ => rfl) _)
    simpa using this
  simp only [kn, List.map_nil] at e
  have hw : evS pg (callF pg T (k + 1)) (.whl ordC ordB [3, 4]) (roR (sysD days hands works (.tup [])) none none) (d.sto ++ [.lst []]) = .ok .nx (roR (sysD days hands works (.tup [])) none none) (d'.sto ++ (.lst (ord.map fun (n : Nat) => D.int n) :: G')) := by
    rw [evS_whl]
    exact e
  have hb : a__law_order = .cons (.asg (.nm 2) (.lst .nil)) (.cons (.whl ordC ordB [3, 4]) (.cons (.ret (.bif .tup (.cons (.loc 2) .nil))) .nil)) := rfl
  rw [callF, T__law_order, hb]
  simp only [roR] at hw
  simp [WL.start, zero, putT, putN, gk, hw, bifD, ht, ga]
end K36
end
section
set_option Elab.async false
set_option linter.all false
set_option maxRecDepth 100000
set_option maxHeartbeats 1000000
namespace K36
open PySem WL KT
theorem T__law_deck : T "_law_deck" = some ⟨1, 4, a__law_deck⟩ := by rfl
def smallP (d : D) : Prop := ∃ p, (∀ S, pd S 60 d = some p) ∧ p.showable = true ∧ p.shown.length ≤ 40
theorem same_ok (k : Nat) {d : D} (h : smallP d) (S : Sto) : callF pg T (k + 1) "_law_same" [d, d] S = .ok (.bl true) S := by
  obtain ⟨p, hp, hs, hl⟩ := h
  have hr : ∀ S, bifD .repr [d] S = .ok (.str p.shown) S := fun S => by
    simp only [bifD, bRepr, hp]
    rw [if_pos ⟨hs, big_of (by omega)⟩]
  have hc : cmpD .eq (.str p.shown) (.str p.shown) S = some true := by
    simp [cmpD, eqD]
  rw [callF, T__law_same]
  simp [a__law_same, WL.start, hr, hc, gc_self]
theorem small_non : smallP .non := ⟨.none, fun _ => by simp [pd], by decide +kernel, by decide +kernel⟩
theorem small_nat {w : Nat} (h : w < 10) : smallP (.int w) := by
  refine ⟨.int w, fun _ => by simp [pd], ?_, ?_⟩
  · match w, h with
    | 0, _ | 1, _ | 2, _ | 3, _ | 4, _ | 5, _ | 6, _ | 7, _ | 8, _ | 9, _ => decide +kernel
    | n + 10, h => exact absurd h (by omega)
  · match w, h with
    | 0, _ | 1, _ | 2, _ | 3, _ | 4, _ | 5, _ | 6, _ | 7, _ | 8, _ | 9, _ => decide +kernel
    | n + 10, h => exact absurd h (by omega)
def dkC : Tx := .and (.cons (.val (.cmp .ge (.loc 3) (.bin .pow (.lit (.int 10)) (.lit (.int 18))))) (.cons (.val (.cmp .lt (.bif .len (.cons (.loc 1) .nil)) (.lit (.int 900)))) .nil))
def dkB : Sms := .cons (.ex (.mth .append (.loc 1) (.cons (.bin .mod (.loc 3) (.lit (.int 2147483629))) .nil))) (.cons (.asg (.nm 3) (.bin .div (.loc 3) (.lit (.int 2147483629)))) .nil)
def dkF : Sms := .cons (.asg (.nm 3) (.bif .abs (.cons (.loc 3) .nil))) (.cons (.ex (.mth .append (.loc 2) (.cons (.bin .mod (.loc 3) (.lit (.int 2147483629))) .nil))) (.cons (.whl dkC dkB []) .nil))
def roD (c : Option D) : Ro := [some (.ref 0), some (.ref 1), some (.ref 2), c]
def stD (sc digs cells : List Int) : Sto := [.rls (sc.map .int), .lst (digs.map .int), .lst (cells.map .int)]
theorem bpow (S : Sto) : binD .pow (.int 10) (.int 18) S = .ok (.int 1000000000000000000) S := by
  simp only [binD]
  rw [if_pos ⟨by decide, by decide, by decide⟩]
  rfl
theorem dk_turn (k : Nat) (sc digs cells : List Int) (hl : digs.length ≤ 900) (c : Int) :
    whT pg (callF pg T k) dkC dkB [] (roD (some (.int c))) (stD sc digs cells) = if 1000000000000000000 ≤ c ∧ digs.length < 900 then .on (roD (some (.int (c / 2147483629)))) (stD sc (digs ++ [c % 2147483629]) cells) else .out (.ok .nx (roD (some (.int c))) (stD sc digs cells)) := by
  have l1 : bLen [.ref 1] (stD sc digs cells) = .ok (.int digs.length) (stD sc digs cells) := by simp [bLen, itemsOf, stD]
  have h1 : (stD sc digs cells)[1]? = some (.lst (digs.map .int)) := rfl
  have hi : isL (stD sc digs cells) (.ref 1) = true := rfl
  have hkz : (digs.map D.int).length < sizeLine := by rw [sizeLine_eq]; simp; omega
  have hm : ∀ y, mthD .append (.ref 1) [.int y] (stD sc digs cells) = .ok .non (stD sc (digs ++ [y]) cells) := fun y => by
    simp only [mthD, mAppend, h1]
    rw [if_pos hkz]
    simp [stD]
  have gl : ∀ y, gc (stD sc digs cells) [] (stD sc (digs ++ [y]) cells) = stD sc (digs ++ [y]) cells := fun y => gc_len rfl
  have bd : ∀ S, binD .div (.int c) (.int 2147483629) S = .ok (.int (c / 2147483629)) S := fun S => by
    simp only [binD]; rw [if_pos (by decide)]
  have m1 := fun S => md S c 2147483629 (by decide)
  unfold whT
  by_cases c1 : 1000000000000000000 ≤ c
  · by_cases c2 : digs.length < 900
    · have c3 : (digs.length : Int) < 900 := by omega
      simp [c3, dkC, dkB, roD, bpow, bifD, l1, c1, c2, gc_self, hi, hm, m1, gl, bd, putT, putN, kill]
    · have c3 : ¬ (digs.length : Int) < 900 := by omega
      simp [c3, dkC, dkB, roD, bpow, bifD, l1, c1, c2, gc_self]
  · simp [dkC, dkB, roD, bpow, bifD, l1, c1, gc_self]
theorem dk_loop (k : Nat) (sc cells : List Int) : ∀ (m : Nat) (digs : List Int) (c : Int), digs.length + m = 900 → (∀ x ∈ digs, 0 ≤ x) →
    ∃ (digs' : List Int) (c' : Int), (∀ x ∈ digs', 0 ≤ x) ∧ digs'.length ≤ 900 ∧ whL (whT pg (callF pg T k) dkC dkB []) (roD (some (.int c))) (stD sc digs cells) = .ok .nx (roD (some (.int c'))) (stD sc digs' cells)
  | 0, digs, c, hl, hp => ⟨digs, c, hp, by omega, whL_out (by rw [dk_turn k sc digs cells (by omega) c, if_neg (by omega)])⟩
  | m + 1, digs, c, hl, hp => by
    by_cases h : 1000000000000000000 ≤ c ∧ digs.length < 900
    · obtain ⟨digs', c', i1, i2, e⟩ := dk_loop k sc cells m (digs ++ [c % 2147483629]) (c / 2147483629) (by simp; omega) (fun x hx => by
        rcases List.mem_append.mp hx with q | q
        · exact hp x q
        · have : x = c % 2147483629 := by simpa using q
          omega)
      exact ⟨digs', c', i1, i2, by rw [whL_on (by rw [dk_turn k sc digs cells (by omega) c, if_pos h]), e]⟩
    · exact ⟨digs, c, hp, by omega, whL_out (by rw [dk_turn k sc digs cells (by omega) c, if_neg h])⟩
theorem dk_for (k : Nat) (sc : List Int) {hold : Sto → Prop} (hh : ∀ S, hold S) : ∀ (xs digs cells : List Int), digs.length ≤ 900 → (∀ x ∈ digs, 0 ≤ x) → (∀ x ∈ cells, 0 ≤ x ∧ x < 2147483629) → cells ≠ [] → cells.length + xs.length ≤ 100 →
    ∃ digs' cells' : List Int, (∀ x ∈ digs', 0 ≤ x) ∧ (∀ x ∈ cells', 0 ≤ x ∧ x < 2147483629) ∧ cells' ≠ [] ∧
      forL hold [3] (forT pg (callF pg T k) (.nm 3) dkF) (xs.map .int) (roD none) (stD sc digs cells) = .ok .nx (roD none) (stD sc digs' cells')
  | [], digs, cells, hl, h1, h2, h3, hz => ⟨digs, cells, h1, h2, h3, by
      simp only [List.map_nil, forL]
      rw [if_pos (hh _)]⟩
  | x :: xs, digs, cells, hl, h1, h2, h3, hz => by
    simp only [List.length_cons] at hz
    obtain ⟨c, hc⟩ : ∃ c, c = if x < 0 then -x else x := ⟨_, rfl⟩
    have hc0 : 0 ≤ c := by rw [hc]; split <;> omega
    obtain ⟨digs', c', i1, i2, e⟩ := dk_loop k sc (cells ++ [c % 2147483629]) (900 - digs.length) digs c (by omega) h1
    obtain ⟨digs2, cells2, j1, j2, j3, e2⟩ := dk_for k sc hh xs digs' (cells ++ [c % 2147483629]) i2 i1 (fun y hy => by
      rcases List.mem_append.mp hy with q | q
      · exact h2 y q
      · have : y = c % 2147483629 := by simpa using q
        omega) (by simp) (by simp; omega)
    refine ⟨digs2, cells2, j1, j2, j3, ?_⟩
    have hab : bAbs [.int x] (stD sc digs cells) = .ok (.int c) (stD sc digs cells) := by rw [hc]; rfl
    have h1 : (stD sc digs cells)[2]? = some (.lst (cells.map .int)) := rfl
    have hi : isL (stD sc digs cells) (.ref 2) = true := rfl
    have hkz : (cells.map D.int).length < sizeLine := by rw [sizeLine_eq]; simp; omega
    have hm : ∀ y, mthD .append (.ref 2) [.int y] (stD sc digs cells) = .ok .non (stD sc digs (cells ++ [y])) := fun y => by
      simp only [mthD, mAppend, h1]
      rw [if_pos hkz]
      simp [stD]
    have gl : ∀ y, gc (stD sc digs cells) [] (stD sc digs (cells ++ [y])) = stD sc digs (cells ++ [y]) := fun y => gc_len rfl
    have m1 := fun S => md S c 2147483629 (by decide)
    have step : forT pg (callF pg T k) (.nm 3) dkF (.int x) (roD none) (stD sc digs cells) = .ok .nx (roD (some (.int c'))) (stD sc digs' (cells ++ [c % 2147483629])) := by
      simp only [roD] at e
      simp [forT, putT, putN, roD, dkF, bifD, hab, gc_self, hi, hm, m1, gl, evS_whl, e]
    simp only [List.map_cons, forL]
    rw [if_pos (hh _), step]
    simp only
    have hk : kill [3] (roD (some (.int c'))) = roD none := rfl
    rw [hk]
    exact e2
theorem deck_ok (k : Nat) (ns : List Int) (hn : ns.length ≤ 63) : ∃ d : Dk, d.ok 0 ∧ callF pg T (k + 1) "_law_deck" [.ref 0] [.rls (ns.map .int)] = .ok (.ref 3) d.sto := by
  obtain ⟨t, htk⟩ : ∃ t, t = ns.take 60 := ⟨_, rfl⟩
  have htl : t.length ≤ 60 := by rw [htk, List.length_take]; omega
  obtain ⟨digs, cells, i1, i2, i3, e⟩ := dk_for k ns (hold := Wk.held ⟨(t).map .int, []⟩) (held_all _) (t) [] [(ns.length : Int)] (by simp) (by simp) (fun x hx => by
    have : x = (ns.length : Int) := by simpa using hx
    omega) (by simp) (by simp only [List.length_cons, List.length_nil]; omega)
  refine ⟨⟨ns, digs, cells, 0⟩, ⟨i1, i2, i3, Int.le_refl _, Int.le_refl _⟩, ?_⟩
  have zero : (0 : Nat) ≤ sizeLine := big_of (by decide)
  have one : (1 : Nat) ≤ sizeLine := big_of (by decide)
  have three : (3 : Nat) ≤ sizeLine := big_of (by decide)
  have hb : a__law_deck = .cons (.asg (.nm 1) (.lst .nil)) (.cons (.asg (.nm 2) (.lst (.cons (.bif .len (.cons (.loc 0) .nil)) .nil))) (.cons (.for_ (.nm 3) (.seq (.cut (.loc 0) .no (.at (.lit (.int 60))))) dkF [3]) (.cons (.ret (.lst (.cons (.loc 1) (.cons (.loc 2) (.cons (.lit (.int 0)) .nil))))) .nil))) := rfl
  have g1 : gc [.rls (ns.map .int)] [.ref 1] [.rls (ns.map .int), .lst []] = [.rls (ns.map .int), .lst []] := gc_keep (by simp)
  have g2 : gc [.rls (ns.map .int), .lst []] [.ref 2] [.rls (ns.map .int), .lst [], .lst [.int ns.length]] = stD ns [] [(ns.length : Int)] := gc_keep (by simp)
  have hlen : bLen [.ref 0] [.rls (ns.map .int), .lst []] = .ok (.int ns.length) [.rls (ns.map .int), .lst []] := by simp [bLen, itemsOf]
  have hcut : cutD (stD ns [] [(ns.length : Int)]) (.ref 0) none (some 60) = .ok (.ref 3) (stD ns [] [(ns.length : Int)] ++ [.lst ((t).map .int)]) := by
    have : cutL (ns.map D.int) none (some 60) = (t).map .int := by
      rw [htk]
      unfold cutL
      rw [HT.sIx_none, show (60 : Int) = ((60 : Nat) : Int) from rfl, HT.sIx_nat]
      simp [List.map_take]
    simp [cutD, stD, this]
  have hwk : wkSeq (stD ns [] [(ns.length : Int)]) (.ref 3) (stD ns [] [(ns.length : Int)] ++ [.lst ((t).map .int)]) = .ok ⟨(t).map .int, []⟩ (stD ns [] [(ns.length : Int)]) := wkSeq_new (low_ints _ _)
  have hf : evS pg (callF pg T k) (.for_ (.nm 3) (.seq (.cut (.loc 0) .no (.at (.lit (.int 60))))) dkF [3]) (roD none) (stD ns [] [(ns.length : Int)]) = .ok .nx (roD none) (stD ns digs cells) := by
    rw [evS_for]
    simp only [roD] at e
    simp [roD, hcut, hwk, e]
  have hl : (stD ns digs cells).length = 3 := rfl
  have gf : gc [.rls (ns.map .int)] [.ref 3] (stD ns digs cells ++ [.lst [.ref 1, .ref 2, .int 0]]) = Dk.sto ⟨ns, digs, cells, 0⟩ := gc_keep (by simp)
  rw [callF, T__law_deck, hb]
  simp only [roD] at hf
  simp [WL.start, zero, one, three, putT, putN, g1, bifD, hlen, g2, hf, hl, gf]
end K36
end
section
set_option Elab.async false
set_option linter.all false
set_option maxRecDepth 100000
set_option maxHeartbeats 1000000
namespace K36
open PySem WL KT
theorem T_law : T "law" = some ⟨1, 8, a_law⟩ := by rfl
theorem forL_draw {hold : Sto → Prop} (hh : ∀ S, hold S) {kl : List Nat} {step : D → Ro → Sto → Sr} {ρ : Ro} (m : Nat) (hs : ∀ (x : Int) (d : Dk) (b : Nat), d.ok b → b + m ≤ 1000000000 → ∃ (ρ' : Ro) (d' : Dk), kill kl ρ' = ρ ∧ d'.ok (b + m) ∧ step (.int x) ρ d.sto = .ok .nx ρ' d'.sto) :
    ∀ (xs : List Int) (d : Dk) (b : Nat), d.ok b → b + m * xs.length ≤ 1000000000 → ∃ d' : Dk, d'.ok (b + m * xs.length) ∧ forL hold kl step (xs.map .int) ρ d.sto = .ok .nx ρ d'.sto
  | [], d, b, h, hz => ⟨d, h, by
      simp only [List.map_nil, forL]
      rw [if_pos (hh _)]⟩
  | x :: xs, d, b, h, hz => by
    have hm : m * (x :: xs).length = m * xs.length + m := by rw [List.length_cons, Nat.mul_add, Nat.mul_one]
    obtain ⟨ρ', d1, hk, o1, e1⟩ := hs x d b h (by omega)
    obtain ⟨d2, o2, e2⟩ := forL_draw hh m hs xs d1 (b + m) o1 (by omega)
    refine ⟨d2, o2.mono (by omega), ?_⟩
    simp only [List.map_cons, forL]
    rw [if_pos (hh _), e1]
    simp only
    rw [hk, e2]
variable {days : Int} {hands : List (List Int)} {works : List Wo}
theorem runO_mem {rows : List (List (Int × Int))} {w : Nat} : ∀ {ws : List Nat} {g : Giv}, runO works rows ws g = .no w → w ∈ ws
  | [], g, h => by cases h
  | v :: ws, g, h => by
    simp only [runO] at h
    split at h
    · cases h
      exact List.mem_cons_self
    · exact List.mem_cons_of_mem _ (runO_mem h)
theorem pair_ok (k : Nat) (hs : SysOk days hands works) {rows : List (List (Int × Int))} (hr : rows.length = works.length) (hz : ∀ r ∈ rows, r.length ≤ 5000) {ord : List Nat} (nd : ord.Nodup) (hw : ∀ w ∈ ord, w < works.length) (hl : ord.length = works.length) (d : Dk) :
    ∃ v u : D, smallP v ∧ callF pg T (k + 7) "_law_refused" [sysD days hands works (.tup []), fieldD rows, .tup (ord.map fun (n : Nat) => D.int n)] d.sto = .ok v d.sto ∧
      callF pg T (k + 7) "_law_by" [sysD days hands works (.tup []), fieldD rows, .tup (ord.map fun (n : Nat) => D.int n)] d.sto = .ok (.tup [u, v]) d.sto := by
  have w1 := hs.w1
  have hS : ∀ (l : Nat) (o : O), d.sto[l]? = some o → o.low d.sto.length = true ∧ o.isExc = false := fun l o h => by
    refine ⟨sto_low d _ (Nat.le_refl _) l o h, ?_⟩
    have hm : o ∈ d.sto := List.mem_of_getElem? h
    simp only [Dk.sto, List.mem_cons, List.not_mem_nil, or_false] at hm
    rcases hm with rfl | rfl | rfl | rfl <;> rfl
  obtain ⟨r1, r2⟩ := refused_ok (wishes := .tup []) (days := days) (hands := hands) (works := works) k (rows := rows) (ord := ord) (fun w h => ⟨hw w h, by have := hw w h; omega, by have := hw w h; omega⟩) (by omega) (big_of (by omega)) d.sto hS (low_sysD _ _ _ _)
  obtain ⟨b1, b2⟩ := law_by_ok (wishes := .tup []) (days := days) (hands := hands) (works := works) (k + 3) (rows := rows) (fun r h => by have := hz r h; rw [sizeLine_eq]; omega) (ord := ord) (fun w h => ⟨hw w h, by have := hw w h; omega⟩) nd (big_of (by omega)) d.sto
  obtain ⟨s1, s2⟩ := run_same (works := works) (rows := rows) (ws := ord) (g := List.replicate ord.length none) (gl := []) (by
    intro j way
    simp only [List.not_mem_nil, iff_false]
    intro h
    have q := List.mem_of_getElem? h
    rw [List.mem_replicate] at q
    exact nomatch q.2) nd (fun w h => ⟨by have := hw w h; simp; omega, by simp⟩)
  cases hro : runO works rows ord (List.replicate ord.length none) with
  | no w =>
    have hm := hw w (runO_mem hro)
    exact ⟨.int w, .non, small_nat (by omega), r1 w hro, b1 w (s1 w hro)⟩
  | all g =>
    obtain ⟨gl, hgl⟩ := s2 g hro
    obtain ⟨u, hu⟩ := b2 gl hgl
    exact ⟨.non, u, small_non, r2 g hro, hu⟩
def inI : Sms := (.cons (.asg (.nm 7) (.call "_law_order" (.cons (.loc 1) (.cons (.loc 3) .nil)))) (.cons (.iff (.not (.val (.call "_law_same" (.cons (.call "_law_refused" (.cons (.loc 3) (.cons (.loc 4) (.cons (.loc 7) .nil)))) (.cons (.idx (.call "_law_by" (.cons (.loc 3) (.cons (.loc 4) (.cons (.loc 7) .nil)))) (.lit (.int 1))) .nil))))) (.cons (.ret (.lit (.bl false))) .nil) .nil) .nil))
def roT (i : Option D) (s f n : Option D) (j o : Option D) : Ro := [some (.ref 0), some (.ref 3), i, s, f, n, j, o]
theorem gc_dk0 (d d' : Dk) (ds : List D) : gc d.sto ds d'.sto = d'.sto := gc_len rfl
theorem turnI (k : Nat) (hs : SysOk days hands works) {rows : List (List (Int × Int))} (hr : rows.length = works.length) (hz : ∀ r ∈ rows, r.length ≤ 5000) (i n : D) (x : Int) (d : Dk) (b : Nat) (hd : d.ok b) (hb : b + 100 ≤ 1000000000) :
    ∃ (ρ' : Ro) (d' : Dk), kill [6, 7] ρ' = roT (some i) (some (sysD days hands works (.tup []))) (some (fieldD rows)) (some n) none none ∧ d'.ok (b + 100) ∧ forT pg (callF pg T (k + 7)) (.nm 6) inI (.int x) (roT (some i) (some (sysD days hands works (.tup []))) (some (fieldD rows)) (some n) none none) d.sto = .ok .nx ρ' d'.sto := by
  obtain ⟨ord, d1, i1, i2, i3, o1, e1⟩ := order_ok (k + 5) hs hd hb
  obtain ⟨v, u, hv, r, l⟩ := pair_ok k hs hr hz i1 i2 i3 d1
  have sm := same_ok (k + 6) hv d1.sto
  refine ⟨roT (some i) (some (sysD days hands works (.tup []))) (some (fieldD rows)) (some n) (some (.int x)) (some (.tup (ord.map fun (n : Nat) => D.int n))), d1, rfl, o1, ?_⟩
  simp [forT, putT, putN, roT, inI, e1, gc_dk0, r, l, sm, gc_self]
def outI : Sms := (.cons (.asg (.nm 3) (.call "_law_system" (.cons (.loc 1) (.cons (.lit (.int 8)) (.cons (.lit (.int 2)) (.cons (.lit (.int 10)) (.cons (.lit (.int 5)) (.cons (.lit (.int 0)) .nil)))))))) (.cons (.asg (.nm 4) (.call "_law_whole" (.cons (.loc 3) .nil))) (.cons (.asg (.nm 5) (.call "_law_next" (.cons (.loc 1) .nil))) (.cons (.iff (.and (.cons (.val (.cmp .eq (.bin .mod (.loc 5) (.lit (.int 3))) (.lit (.int 0)))) (.cons (.val (.cmp .gt (.bif .len (.cons (.loc 4) .nil)) (.lit (.int 0)))) .nil))) (.cons (.asg (.nm 4) (.call "_law_put" (.cons (.loc 4) (.cons (.bin .mod (.bin .div (.loc 5) (.lit (.int 3))) (.bif .len (.cons (.loc 4) .nil))) (.cons (.tup .nil) .nil))))) .nil) .nil) (.cons (.for_ (.nm 6) (.rng1 (.lit (.int 3))) inI [6, 7]) .nil)))))
theorem ups3 : rangeD 0 3 = (ups 3).map .int := rfl
theorem ups5 : rangeD 0 5 = (ups 5).map .int := rfl
theorem turnS (k : Nat) (x : Int) (d : Dk) (b : Nat) (hd : d.ok b) (hb : b + 21000 ≤ 1000000000) :
    ∃ (ρ' : Ro) (d' : Dk), kill [2, 3, 4, 5, 6] ρ' = roT none none none none none none ∧ d'.ok (b + 21000) ∧ forT pg (callF pg T (k + 7)) (.nm 2) outI (.int x) (roT none none none none none none) d.sto = .ok .nx ρ' d'.sto := by
  obtain ⟨days, hands, works, d1, hs, o1, e1⟩ := system_ok (k + 3) hd (by omega)
  have e1 := e1 []
  simp only [List.append_nil] at e1
  have w1 := hs.w1
  obtain ⟨rows, hr, hz, e2⟩ := whole_ok (k + 5) hs d1.sto
  obtain ⟨n, d3, hn, o3, e3⟩ := next_ok (k + 6) o1 (by omega)
  have e3 := e3 []
  simp only [List.append_nil] at e3
  have hl2 : ∀ S, bLen [fieldD rows] S = .ok (.int rows.length) S := fun _ => by simp [fieldD, tup_len]
  have m3 := fun (S : Sto) i => md S i 3 (by decide)
  have bd : ∀ S, binD .div (.int n) (.int 3) S = .ok (.int (n / 3)) S := fun S => by
    simp only [binD]; rw [if_pos (by decide)]
  have zero : (0 : Nat) ≤ sizeLine := big_of (by decide)
  have fin : ∀ rows2 : List (List (Int × Int)), rows2.length = works.length → (∀ r ∈ rows2, r.length ≤ 5000) → ∃ d' : Dk, d'.ok (b + 21000) ∧ evS pg (callF pg T (k + 7)) (.for_ (.nm 6) (.rng1 (.lit (.int 3))) inI [6, 7]) (roT (some (.int x)) (some (sysD days hands works (.tup []))) (some (fieldD rows2)) (some (.int n)) none none) d3.sto = .ok .nx (roT (some (.int x)) (some (sysD days hands works (.tup []))) (some (fieldD rows2)) (some (.int n)) none none) d'.sto := fun rows2 hr2 hz2 => by
    obtain ⟨d', o', e'⟩ := forL_draw (hold := Wk.held ⟨(ups 3).map .int, []⟩) (held_all _) (kl := [6, 7]) 100 (turnI k hs hr2 hz2 (.int x) (.int n)) (ups 3) d3 _ o3 (by rw [ups_len]; omega)
    rw [ups_len] at o'
    refine ⟨d', o'.mono (by omega), ?_⟩
    rw [evS_for]
    simp [ups3, e']
  by_cases c : n % 3 = 0 ∧ 0 < rows.length
  · have q0 := Int.emod_nonneg (n / 3) (show (rows.length : Int) ≠ 0 by omega)
    have q1 := Int.emod_lt_of_pos (n / 3) (show (0 : Int) < rows.length by omega)
    have e4 := put_ok (k + 6) (rows := rows) (by omega) q0 q1 d3.sto
    have m4 := fun (S : Sto) i => md S i rows.length (by omega)
    obtain ⟨d', o', e'⟩ := fin (rows.set ((n / 3) % (rows.length : Int)).toNat []) (by simp [hr]) (fun r h => by
      rcases List.mem_or_eq_of_mem_set h with h | h
      · exact hz r h
      · subst h; simp)
    refine ⟨roT (some (.int x)) (some (sysD days hands works (.tup []))) (some (fieldD (rows.set ((n / 3) % (rows.length : Int)).toNat []))) (some (.int n)) none none, d', rfl, o', ?_⟩
    simp only [roT] at e'
    have c2 : (0 : Int) < rows.length := by omega
    simp [forT, putT, putN, roT, outI, e1, gc_dk0, e2, e3, gc_self, m3, c.1, c.2, bifD, hl2, c2, bd, m4, zero, e4, e']
  · obtain ⟨d', o', e'⟩ := fin rows hr hz
    refine ⟨roT (some (.int x)) (some (sysD days hands works (.tup []))) (some (fieldD rows)) (some (.int n)) none none, d', rfl, o', ?_⟩
    simp only [roT] at e'
    by_cases c1 : n % 3 = 0
    · have c2 : ¬ (0 : Int) < rows.length := by omega
      have c3 : ¬ 0 < rows.length := by omega
      simp [c3, forT, putT, putN, roT, outI, e1, gc_dk0, e2, e3, gc_self, m3, c1, bifD, hl2, c2, e']
    · simp [forT, putT, putN, roT, outI, e1, gc_dk0, e2, e3, gc_self, m3, c1, e']
theorem law_ok (ns : List Int) (hn : ns.length ≤ 63) : ∃ Sf, callF pg T 220 "law" [.ref 0] [.rls (ns.map .int)] = .ok (.bl true) Sf := by
  obtain ⟨d, o, e⟩ := deck_ok 218 ns hn
  obtain ⟨d', o', e'⟩ := forL_draw (hold := Wk.held ⟨(ups 5).map .int, []⟩) (held_all _) (kl := [2, 3, 4, 5, 6]) 21000 (turnS 212) (ups 5) d 0 o (by rw [ups_len]; omega)
  have hb : a_law = .cons (.asg (.nm 1) (.call "_law_deck" (.cons (.loc 0) .nil))) (.cons (.for_ (.nm 2) (.rng1 (.lit (.int 5))) outI [2, 3, 4, 5, 6]) (.cons (.ret (.lit (.bl true))) .nil)) := rfl
  have e2 : callF pg T 219 "_law_deck" [.ref 0] [.rls (ns.map .int)] = .ok (.ref 3) d.sto := e
  have g1 : gc [.rls (ns.map .int)] [.ref 3] d.sto = d.sto := gc_keep (by simp)
  have hf : evS pg (callF pg T 219) (.for_ (.nm 2) (.rng1 (.lit (.int 5))) outI [2, 3, 4, 5, 6]) (roT none none none none none none) d.sto = .ok .nx (roT none none none none none none) d'.sto := by
    rw [evS_for]
    simp [ups5, e']
  refine ⟨gc [.rls (ns.map .int)] [.bl true] d'.sto, ?_⟩
  show callF pg T (219 + 1) "law" _ _ = _
  rw [callF, T_law, hb]
  simp only [roT] at hf
  simp [WL.start, e2, g1, putT, putN, hf]
end K36
end
theorem PySem.Challenge.cw_workwishes_k36_no_room_holds : PySem.Challenge.rw_workwishes_k36_no_room.Holds := by
  exact KT.hold K36.law_ok
